/- WHAT IS PROVED: contracts and plain laws of OfR, SortMath. Conditions: stated with each. -/
import Derived.Calls
import Derived.Test.YtoaifondpohniaaGreatPR04
import Derived.Test.YtoaifondpohniaaGreatPR07
import Derived.Test.YtoaifondpohniaaGreatPR09
set_option maxHeartbeats 4000000
set_option maxRecDepth 100000
namespace Go.Proofs.YtoaifondpohniaaGreat
open Go.RowKit
abbrev ZbY (p0 : Int) (p1 : Int) : List Value := ([(.int .i64 p0), (.int .i64 p1)] : List Value)
abbrev ZbZ : List Value := ([(.int .u8 (99)), (.int .u8 (111)), (.int .u8 (109)), (.int .u8 (109)), (.int .u8 (105)), (.int .u8 (116))] : List Value)
abbrev kOfR_3 (p0 : Option Addr) (p1 : Nat) (p2 : Nat) (p3 : Option Addr) (p4 : Nat) (p5 : Nat) (p6 : Option Addr) (p7 : Nat) (p8 : Nat) (p9 : Nat) (p10 : Option Addr) (p11 : Nat) (p12 : Nat) : List Value := ([(.slice p0 p1 p2), (.slice p3 p4 p5), (.slice p6 p7 p8), (.slice (some ⟨p9, 0, none⟩) 32 32), (.slice p10 p11 p12)] : List Value)
def ofT (cl seq : Int) (x : Hash) (p : List UInt8) : List UInt8 := [ZM [99, 111, 109, 109, 105, 116], Zh cl, Zh seq, x.l, ZM p].flatten
theorem Zcx (cl seq : Int) (x : Hash) (p : List UInt8) : (ofT cl seq x p).length ≤ p.length + 100 := by
 have h1 := ZD cl; have h2 := ZD seq; have h3 := x.len; have h4 := Z1d p; have h5 := Z1d [99, 111, 109, 109, 105, 116]
 simp only [List.length_cons, List.length_nil] at h5
 simp only [ofT, List.flatten_cons, List.flatten_nil, List.length_append, List.length_nil]; omega
theorem ZaF (w : World) (cl seq : Int) (x : Hash) (pa : Option Addr) (pc : Nat) (p : List UInt8) (hp : ListAt ZN 1 w (.slice pa p.length pc) p) (hcl : cl ≤ 9223372036854775807) (hsq : seq ≤ 9223372036854775807) (hlp : p.length ≤ 1000) :
  Calls Tryz.prog 72 #[(.agg ⟨([(.int .i64 (cl)), (.int .i64 (seq))] : List Value)⟩), (.agg ⟨(hc x)⟩), (.slice pa p.length pc)] w fun e w' => e = .returned (.agg ⟨hc (Z1f (ofT cl seq x p))⟩) ∧ Upd [] w w' := by
 have H := Sat.start0 w
 refine Zp Tryz.func72 rfl 22 rfl (Nat.le_of_ble_eq_true rfl) ?_
 apply zsl
 refine zwd fun Kq kq => ?_
 refine zdb (ZbY cl seq) H ?_
 intro b2 w3 H4
 refine kq _ _ ?_
 clear kq Kq
 refine zwd fun Kq kq => ?_
 refine zdb (hc x) H4 ?_
 intro b6 w7 H8
 refine kq _ _ ?_
 clear kq Kq
 refine zwd fun Kq kq => ?_
 refine zda (hc Z0d) H8 ?_
 intro b10 w11 H12
 refine kq _ _ ?_
 clear kq Kq
 apply znt
 apply Zt
 refine Z00 H12 [Z6 w (fun _ => False), Z0 b2 24 (ZbY cl seq), Z0 b6 26 (hc x)] 16 rfl (by kernel_rfl) (fun Hx => (Hx.pk [0, 1, 2])) ?_
 intro w13 H14 S15
 refine hv0 3 S15 10 (pt b2 0) ?_
 refine hv0 4 S15 11 (.int .i64 (cl)) ?_ (he := fun _ H' => (Z2 rfl (by kernel_rfl) (H'.cell 1 rfl rfl)))
 refine hv0 6 S15 13 (pt b2 1) ?_
 refine hv0 7 S15 14 (.int .i64 (seq)) ?_ (he := fun _ H' => (Z2 rfl (by kernel_rfl) (H'.cell 1 rfl rfl)))
 refine hv0 9 S15 16 (.slice (some ⟨b6, 0, none⟩) 32 32) ?_
 refine hv0 10 S15 17 (.slice pa p.length pc) ?_
 refine Z09 0 fun Kq kq => ?_
 refine Z3o 5 1 1 (.int .u8 (0)) [(0, (.int .u8 (99))), (1, (.int .u8 (111))), (2, (.int .u8 (109))), (3, (.int .u8 (109))), (4, (.int .u8 (105))), (5, (.int .u8 (116)))] (ZbZ) H14 ?_
 intro b17 w18 H19
 have H20 := H19.ct 4 rfl (ZH 5 1 (.slice (some ⟨b17, 0, none⟩) 6 6) 6 ([99, 111, 109, 109, 105, 116].flatMap ZN)) (by rw [show ((ZbZ) : List Value) = [99, 111, 109, 109, 105, 116].flatMap ZN from rfl])
 have S21 := H20.pk [0, 1, 2]
 refine kq _ _ S21 ?_
 clear kq Kq
 refine Z09 1 fun Kq kq => ?_
 refine Z1T (e := 5) (s := [99, 111, 109, 109, 105, 116]) rfl H20 4 rfl (by kernel_rfl) (by kernel_rfl) rfl ?_
 intro w23 H24
 have S25 := H24.pk [0, 1, 2]
 refine kq _ _ S25 ?_
 clear kq Kq
 refine Z09 2 fun Kq kq => ?_
 refine zdc 9 (Z3M w23 (.slice (some ⟨b17, 0, none⟩) 6 6) ([99, 111, 109, 109, 105, 116]) (ListAt.ofTxt (H24.at 4 rfl)) (by simp)) ?_
 rintro _ w27 ⟨u28, rfl, k29, p30, q31⟩
 have H32 := H24.addU p30 k29 q31
 obtain ⟨a33, c34, rfl⟩ := Z1 (H32.at 5 rfl)
 refine ⟨_, rfl, ?_⟩
 have S35 := H32.pk [0, 1, 2]
 refine kq _ _ S35 ?_
 clear kq Kq
 refine Z09 5 fun Kq kq => ?_
 refine zdc 12 (Z1c w27 cl (by omega)) ?_
 rintro _ w37 ⟨u38, rfl, k39, p40, q41⟩
 have H42 := H32.addU p40 k39 q41
 obtain ⟨a43, c44, rfl⟩ := Z1 (H42.at 6 rfl)
 refine ⟨_, rfl, ?_⟩
 have S45 := H42.pk [0, 1, 2]
 refine kq _ _ S45 ?_
 clear kq Kq
 refine Z09 8 fun Kq kq => ?_
 refine zdc 15 (Z1c w37 seq (by omega)) ?_
 rintro _ w47 ⟨u48, rfl, k49, p50, q51⟩
 have H52 := H42.addU p50 k49 q51
 obtain ⟨a53, c54, rfl⟩ := Z1 (H52.at 7 rfl)
 refine ⟨_, rfl, ?_⟩
 have S55 := H52.pk [0, 1, 2]
 refine kq _ _ S55 ?_
 clear kq Kq
 refine Z09 11 fun Kq kq => ?_
 refine zdc 18 (Z3M w47 (.slice pa p.length pc) p (ListAt.now H52 0 rfl hp) (by omega)) ?_
 rintro _ w57 ⟨u58, rfl, k59, p60, q61⟩
 have H62 := H52.addU p60 k59 q61
 obtain ⟨a63, c64, rfl⟩ := Z1 (H62.at 8 rfl)
 refine ⟨_, rfl, ?_⟩
 have S65 := H62.pk [0, 1, 2]
 refine kq _ _ S65 ?_
 clear kq Kq
 refine Z09 12 fun Kq kq => ?_
 refine Z3o 62 1 24 (.slice none 0 0) [(0, (.slice a33 ((ZM ([99, 111, 109, 109, 105, 116])).length) c34)), (1, (.slice a43 ((Zh cl).length) c44)), (2, (.slice a53 ((Zh seq).length) c54)), (3, (.slice (some ⟨b6, 0, none⟩) 32 32)), (4, (.slice a63 ((ZM p).length) c64))] (kOfR_3 a33 ((ZM ([99, 111, 109, 109, 105, 116])).length) c34 a43 ((Zh cl).length) c44 a53 ((Zh seq).length) c54 b6 a63 ((ZM p).length) c64) H62 ?_
 intro b67 w68 H69
 have S70 := H69.pk [0, 1, 2]
 refine kq _ _ S70 ?_
 clear kq Kq
 refine Z09 13 fun Kq kq => ?_
 have l72 := Z1d ([99, 111, 109, 109, 105, 116])
 simp only [List.length_cons, List.length_nil] at l72
 have l73 := ZD cl
 have l74 := ZD seq
 have l75 := x.len
 have l76 := Z1d p
 refine zdc 20 (Z1K w68 (.slice (some ⟨b67, 0, none⟩) 5 5) [(.slice a33 ((ZM ([99, 111, 109, 109, 105, 116])).length) c34), (.slice a43 ((Zh cl).length) c44), (.slice a53 ((Zh seq).length) c54), (.slice (some ⟨b6, 0, none⟩) 32 32), (.slice a63 ((ZM p).length) c64)] [(ZM ([99, 111, 109, 109, 105, 116])), (Zh cl), (Zh seq), x.l, (ZM p)] (ListAt.row (enc := Z7T) (sz := 1) (xs := [(.slice a33 ((ZM ([99, 111, 109, 109, 105, 116])).length) c34), (.slice a43 ((Zh cl).length) c44), (.slice a53 ((Zh seq).length) c54), (.slice (some ⟨b6, 0, none⟩) 32 32), (.slice a63 ((ZM p).length) c64)]) Z1B (by decide) (H69.at 9 rfl)) (Parts.cons (ListAt.row (enc := ZN) (sz := 1) ZE (by decide) (H69.at 5 rfl)) (Parts.cons (ListAt.row (enc := ZN) (sz := 1) ZE (by decide) (H69.at 6 rfl)) (Parts.cons (ListAt.row (enc := ZN) (sz := 1) ZE (by decide) (H69.at 7 rfl)) (Parts.cons (ListAt.ofHash (Z2R (H69.at 2 rfl) (by kernel_rfl)) (by decide)) (Parts.cons (ListAt.row (enc := ZN) (sz := 1) ZE (by decide) (H69.at 8 rfl)) Parts.nil))))) (by simp only [List.flatten_cons, List.flatten_nil, List.length_append, List.length_nil]; omega) (by simp)) ?_
 rintro _ w77 ⟨u78, rfl, k79, p80, q81⟩
 have H82 := H69.addU p80 k79 q81
 obtain ⟨a83, c84, rfl⟩ := Z1 (H82.at 10 rfl)
 refine ⟨_, rfl, ?_⟩
 have S85 := H82.pk [0, 1, 2]
 refine kq _ _ S85 ?_
 clear kq Kq
 refine Z09 14 fun Kq kq => ?_
 refine zdq 21 (ZbB w77 a83 c84 ([(ZM ([99, 111, 109, 109, 105, 116])), (Zh cl), (Zh seq), x.l, (ZM p)].flatten) (ListAt.row (enc := ZN) (sz := 1) ZE (by decide) (H82.at 10 rfl)) (by have q_ := Zcx cl seq x p; unfold ofT at q_; omega)) H82 ?_
 intro w87 H88
 have S90 := H88.pk [0, 1, 2]
 refine kq _ _ S90 ?_
 clear kq Kq
 refine Z09 15 fun Kq kq => ?_
 refine Z2k (hc (Z1f ([(ZM ([99, 111, 109, 109, 105, 116])), (Zh cl), (Zh seq), x.l, (ZM p)].flatten))) H88 3 ?_
 intro w92 H93
 have S95 := H93.pk [0, 1, 2]
 refine kq _ _ S95 ?_
 clear kq Kq
 refine zhf ?_
 apply ztn
 apply ZA
 refine Z6E rfl (Z0i (vs := (hc (Z1f ([(ZM ([99, 111, 109, 109, 105, 116])), (Zh cl), (Zh seq), x.l, (ZM p)].flatten)))) rfl (by kernel_rfl) (by kernel_rfl) (by exact Nat.le_of_ble_eq_true (by kernel_rfl)) (H93.at 3 rfl) (by kernel_rfl)) ?_
 exact ⟨rfl, H93.upd 0 rfl [] (fun _ h => h.elim)⟩
end Go.Proofs.YtoaifondpohniaaGreat
namespace Go.Proofs.YtoaifondpohniaaGreat
structure SW {α : Type} (lt : α → α → Bool) : Prop where
 asym : ∀ x y, lt x y = true → lt y x = false
 neg : ∀ x y w, lt x y = false → lt y w = false → lt x w = false
section
variable {α : Type} {lt : α → α → Bool} {A B C D : List α} {a b c d i j k m : Nat} {x y z : α}
theorem SW.irrefl (h : SW lt) (x : α) : lt x x = false := by
 cases e : lt x x
 ·rfl
 ·exact absurd (h.asym x x e) (by simp [e])
inductive SegP (a b : Nat) (A : List α) : List α → Prop
 | refl : SegP a b A A
 | swap {B : List α} {i j : Nat} {x y : α} : SegP a b A B → a ≤ i → i < b → a ≤ j → j < b → B[i]? = some x → B[j]? = some y → SegP a b A ((B.set i y).set j x)
theorem ZbQ (h : A[i]? = some x) : i < A.length := (List.getElem?_eq_some_iff.1 h).1
theorem Z2D (hx : A[i]? = some x) (hy : A[j]? = some y) (k : Nat) : ((A.set i y).set j x)[k]? = if k = j then some x else if k = i then some y else A[k]? := by
 have h1 := ZbQ hx
 have h2 := ZbQ hy
 rw [List.getElem?_set, List.getElem?_set, List.length_set]
 by_cases e1 : j = k
 ·subst e1; simp [h2]
 ·rw [if_neg e1, if_neg (Ne.symm e1)]
  by_cases e2 : i = k
  ·subst e2; simp [h1]
  ·rw [if_neg e2, if_neg (Ne.symm e2)]
theorem SegP.len (h : SegP a b A B) : B.length = A.length := by
 induction h with
 | refl => rfl
 | swap _ _ _ _ _ _ _ ih => simpa using ih
theorem SegP.perm (h : SegP a b A B) : B.Perm A := by
 induction h with
 | refl => exact List.Perm.refl _
 | @swap B i j x y _ _ _ _ _ hx hy ih =>
  refine List.Perm.trans ?_ ih
  obtain ⟨h1, rfl⟩ := List.getElem?_eq_some_iff.1 hx
  obtain ⟨h2, rfl⟩ := List.getElem?_eq_some_iff.1 hy
  exact List.set_set_perm h1 h2
theorem SegP.out (h : SegP a b A B) (hk : k < a ∨ b ≤ k) : B[k]? = A[k]? := by
 induction h with
 | refl => rfl
 | @swap B i j x y _ h1 h2 h3 h4 hx hy ih => rw [Z2D hx hy, if_neg (by omega), if_neg (by omega), ih]
theorem SegP.mono (h : SegP a b A B) (ha : c ≤ a) (hb : b ≤ d) : SegP c d A B := by
 induction h with
 | refl => exact .refl
 | swap _ h1 h2 h3 h4 hx hy ih => exact ih.swap (by omega) (by omega) (by omega) (by omega) hx hy
theorem SegP.trans (h : SegP a b A B) (k : SegP a b B C) : SegP a b A C := by
 induction k with
 | refl => exact h
 | swap _ h1 h2 h3 h4 hx hy ih => exact ih.swap h1 h2 h3 h4 hx hy
theorem SegP.of_swap (h1 : a ≤ i) (h2 : i < b) (h3 : a ≤ j) (h4 : j < b) (hx : A[i]? = some x) (hy : A[j]? = some y) : SegP a b A ((A.set i y).set j x) := SegP.refl.swap h1 h2 h3 h4 hx hy
def Z6w (p : α → Prop) (c d : Nat) (A : List α) : Prop := ∀ k x, c ≤ k → k < d → A[k]? = some x → p x
theorem SegP.all {p : α → Prop} (h : SegP a b A B) (hc : c ≤ a) (hd : b ≤ d) (hA : Z6w p c d A) : Z6w p c d B := by
 induction h with
 | refl => exact hA
 | @swap B i j x y _ h1 h2 h3 h4 hx hy ih =>
  intro k u hk hk2 hu
  rw [Z2D hx hy] at hu
  split at hu
  ·cases hu; exact ih i x (by omega) (by omega) hx
  split at hu
  ·cases hu; exact ih j y (by omega) (by omega) hy
  ·exact ih k u hk hk2 hu
def Srt (lt : α → α → Bool) (a b : Nat) (A : List α) : Prop := ∀ i j x y, a ≤ i → i < j → j < b → A[i]? = some x → A[j]? = some y → lt y x = false
def Le2 (lt : α → α → Bool) (a b c d : Nat) (A : List α) : Prop := ∀ i j x y, a ≤ i → i < b → c ≤ j → j < d → A[i]? = some x → A[j]? = some y → lt y x = false
theorem Srt.short (h : b ≤ a + 1) : Srt lt a b A := fun i j _ _ h1 h2 h3 _ _ => by omega
theorem Srt.out (hs : Srt lt a b A) (h : SegP c d A B) (hcd : b ≤ c ∨ d ≤ a) : Srt lt a b B := by
 intro i j x y h1 h2 h3 hx hy
 rw [h.out (by omega)] at hx hy
 exact hs i j x y h1 h2 h3 hx hy
theorem Srt.join (h1 : Srt lt a m A) (h2 : Srt lt m b A) (h3 : Le2 lt a m m b A) : Srt lt a b A := by
 intro i j x y ha hij hb hx hy
 by_cases e1 : j < m
 ·exact h1 i j x y ha hij e1 hx hy
 ·by_cases e2 : i < m
  ·exact h3 i j x y ha e2 (by omega) hb hx hy
  ·exact h2 i j x y (by omega) hij hb hx hy
theorem Le2.left (hl : Le2 lt a b c d A) (h : SegP i j A B) (h1 : a ≤ i) (h2 : j ≤ b) (h3 : b ≤ c) : Le2 lt a b c d B := by
 intro p q x y hp1 hp2 hq1 hq2 hx hy
 rw [h.out (by omega)] at hy
 exact h.all (p := fun x => lt y x = false) h1 h2 (fun k u hk hk2 hu => hl k q u y hk hk2 hq1 hq2 hu hy) p x hp1 hp2 hx
theorem Le2.right (hl : Le2 lt a b c d A) (h : SegP i j A B) (h1 : c ≤ i) (h2 : j ≤ d) (h3 : b ≤ c) : Le2 lt a b c d B := by
 intro p q x y hp1 hp2 hq1 hq2 hx hy
 rw [h.out (by omega)] at hx
 exact h.all (p := fun y => lt y x = false) h1 h2 (fun k u hk hk2 hu => hl p k x u hp1 hp2 hk hk2 hx hu) q y hq1 hq2 hy
theorem Le2.sub (hl : Le2 lt a b c d A) {a' b' c' d' : Nat} (h1 : a ≤ a') (h2 : b' ≤ b) (h3 : c ≤ c') (h4 : d' ≤ d) : Le2 lt a' b' c' d' A :=
 fun p q x y hp1 hp2 hq1 hq2 hx hy => hl p q x y (by omega) (by omega) (by omega) (by omega) hx hy
theorem Srt.sub (h : Srt lt a b A) {a' b' : Nat} (h1 : a ≤ a') (h2 : b' ≤ b) : Srt lt a' b' A := fun i j x y h3 h4 h5 hx hy => h i j x y (by omega) h4 (by omega) hx hy
structure Ins (lt : α → α → Bool) (a i j : Nat) (B : List α) : Prop where
 lo : Srt lt a j B
 hi : Srt lt j (i + 1) B
 cr : Le2 lt a j (j + 1) (i + 1) B
theorem Ins.start (h : Srt lt a i B) : Ins lt a i i B := ⟨h, Srt.short (by omega), fun p q _ _ _ _ h3 h4 _ _ => by omega⟩
theorem Ins.step (hw : SW lt) (h : Ins lt a i j B) (ha : a < j) (_hj : j ≤ i) (hx : B[j]? = some x) (hy : B[j - 1]? = some y) (hl : lt x y = true) : Ins lt a i (j - 1) ((B.set j y).set (j - 1) x) := by
 have g := Z2D hx hy
 refine ⟨?_, ?_, ?_⟩
 ·intro p q u v h1 h2 h3 hu hv
  rw [g, if_neg (by omega), if_neg (by omega)] at hu hv
  exact h.lo p q u v h1 h2 (by omega) hu hv
 ·intro p q u v h1 h2 h3 hu hv
  rw [g] at hu hv
  by_cases e1 : p = j - 1
  ·rw [if_pos e1] at hu; cases hu
   rw [if_neg (by omega)] at hv
   by_cases e2 : q = j
   ·rw [if_pos e2] at hv; cases hv; exact hw.asym _ _ hl
   ·rw [if_neg e2] at hv
    exact h.hi j q x v (by omega) (by omega) (by omega) hx hv
  ·rw [if_neg e1] at hu
   rw [if_neg (by omega)] at hv
   rw [if_neg (by omega)] at hv
   by_cases e2 : p = j
   ·rw [if_pos e2] at hu; cases hu
    exact h.cr (j - 1) q y v (by omega) (by omega) (by omega) (by omega) hy hv
   ·rw [if_neg e2] at hu
    exact h.hi p q u v (by omega) h2 h3 hu hv
 ·intro p q u v h1 h2 h3 h4 hu hv
  rw [g, if_neg (by omega), if_neg (by omega)] at hu
  rw [g, if_neg (by omega)] at hv
  by_cases e : q = j
  ·rw [if_pos e] at hv; cases hv
   exact h.lo p (j - 1) u y h1 (by omega) (by omega) hu hy
  ·rw [if_neg e] at hv
   exact h.cr p q u v h1 (by omega) (by omega) h4 hu hv
theorem Ins.low (h : Ins lt a i a B) : Srt lt a (i + 1) B := h.hi
theorem Ins.stop (hw : SW lt) (h : Ins lt a i j B) (ha : a < j) (hj : j ≤ i) (hx : B[j]? = some x) (hy : B[j - 1]? = some y) (hl : lt x y = false) : Srt lt a (i + 1) B := by
 refine h.lo.join h.hi ?_
 intro p q u v h1 h2 h3 h4 hu hv
 by_cases e : q = j
 ·subst e; rw [hx] at hv; cases hv
  by_cases e2 : p = q - 1
  ·subst e2; rw [hy] at hu; cases hu; exact hl
  ·exact hw.neg _ _ _ hl (h.lo p (q - 1) u y h1 (by omega) (by omega) hu hy)
 ·exact h.cr p q u v h1 h2 (by omega) h4 hu hv
def Kid (r c : Nat) : Prop := c = 2 * r + 1 ∨ c = 2 * r + 2
def Heap (lt : α → α → Bool) (f lo hi : Nat) (B : List α) : Prop := ∀ r c x y, lo ≤ r → Kid r c → c < hi → B[f + r]? = some x → B[f + c]? = some y → lt x y = false
structure Sift (lt : α → α → Bool) (f lo hi root : Nat) (B : List α) : Prop where
 oth : ∀ r c x y, lo ≤ r → r ≠ root → Kid r c → c < hi → B[f + r]? = some x → B[f + c]? = some y → lt x y = false
 up : ∀ r c x y, lo ≤ r → Kid r root → Kid root c → c < hi → B[f + r]? = some x → B[f + c]? = some y → lt x y = false
theorem Sift.start {f lo hi : Nat} (h : Heap lt f (lo + 1) hi B) : Sift lt f lo hi lo B :=
 ⟨fun r c x y h1 h2 h3 h4 hx hy => h r c x y (by omega) h3 h4 hx hy, fun r c x y h1 h2 _ _ _ _ => by unfold Kid at h2; omega⟩
theorem Sift.step (hw : SW lt) {f lo hi root ch : Nat} (h : Sift lt f lo hi root B) (hlo : lo ≤ root) (hk : Kid root ch) (hc : ch < hi) (hx : B[f + root]? = some x) (hy : B[f + ch]? = some y) (hl : lt x y = true)
  (hmax : ∀ c z, Kid root c → c < hi → B[f + c]? = some z → lt y z = false) : Sift lt f lo hi ch ((B.set (f + root) y).set (f + ch) x) := by
 have g := Z2D hx hy
 unfold Kid at hk
 refine ⟨?_, ?_⟩
 ·intro r c u v h1 h2 h3 h4 hu hv
  rw [g] at hu hv
  rw [if_neg (by omega)] at hu
  by_cases e : r = root
  ·subst e
   rw [if_pos rfl] at hu; cases hu
   by_cases e2 : c = ch
   ·subst e2; rw [if_pos rfl] at hv; cases hv; exact hw.asym _ _ hl
   ·unfold Kid at h3
    rw [if_neg (by omega), if_neg (by omega)] at hv
    exact hmax c v (by unfold Kid; omega) h4 hv
  ·rw [if_neg (by omega)] at hu
   unfold Kid at h3
   rw [if_neg (by omega)] at hv
   by_cases e2 : c = root
   ·subst e2
    rw [if_pos rfl] at hv; cases hv
    exact h.up r ch u y h1 (by unfold Kid; omega) (by unfold Kid; omega) hc hu hy
   ·rw [if_neg (by omega)] at hv
    exact h.oth r c u v h1 e (by unfold Kid; omega) h4 hu hv
 ·intro r c u v h1 h2 h3 h4 hu hv
  unfold Kid at h2 h3
  obtain rfl : r = root := by omega
  rw [g] at hu hv
  rw [if_neg (by omega), if_pos rfl] at hu; cases hu
  rw [if_neg (by omega), if_neg (by omega)] at hv
  exact h.oth ch c y v (by omega) (by omega) (by unfold Kid; omega) h4 hy hv
theorem Sift.stop (hw : SW lt) {f lo hi root ch : Nat} (h : Sift lt f lo hi root B) (hx : B[f + root]? = some x) (hl : lt x y = false) (_hy : B[f + ch]? = some y)
  (hmax : ∀ c z, Kid root c → c < hi → B[f + c]? = some z → lt y z = false) : Heap lt f lo hi B := by
 intro r c u v h1 h2 h3 hu hv
 by_cases e : r = root
 ·subst e
  rw [hx] at hu; cases hu
  exact hw.neg _ _ _ hl (hmax c v h2 h3 hv)
 ·exact h.oth r c u v h1 e h2 h3 hu hv
theorem Heap.max (hw : SW lt) {f hi : Nat} (h : Heap lt f 0 hi B) (hb : f + hi ≤ B.length) (hx : B[f]? = some x) : ∀ k y, k < hi → B[f + k]? = some y → lt x y = false := by
 intro k
 induction k using Nat.strongRecOn with
 | _ k ih =>
  intro y hk hy
  by_cases e : k = 0
  ·subst e; rw [Nat.add_zero, hx] at hy; cases hy; exact hw.irrefl _
  ·have hp : f + (k - 1) / 2 < B.length := by omega
   have h1 := ih ((k - 1) / 2) (by omega) _ (by omega) (List.getElem?_eq_getElem hp)
   exact hw.neg _ _ _ h1 (h ((k - 1) / 2) k _ y (Nat.zero_le _) (by unfold Kid; omega) hk (List.getElem?_eq_getElem hp) hy)
structure Pop (lt : α → α → Bool) (f i hi : Nat) (B : List α) : Prop where
 heap : Heap lt f 0 i B
 srt : Srt lt (f + i) (f + hi) B
 le : Le2 lt f (f + i) (f + i) (f + hi) B
theorem Pop.start {f hi : Nat} (h : Heap lt f 0 hi B) : Pop lt f hi hi B := ⟨h, Srt.short (by omega), fun p q _ _ _ _ h3 h4 _ _ => by omega⟩
theorem Pop.swap (hw : SW lt) {f hi : Nat} (h : Pop lt f (i + 1) hi B) (hi' : i < hi) (hb : f + hi ≤ B.length) (hx : B[f]? = some x) (hy : B[f + i]? = some y) :
  Heap lt f 1 i ((B.set f y).set (f + i) x) ∧ Srt lt (f + i) (f + hi) ((B.set f y).set (f + i) x) ∧ Le2 lt f (f + i) (f + i) (f + hi) ((B.set f y).set (f + i) x) := by
 have g := Z2D hx hy
 have hm := h.heap.max hw (by omega) hx
 have hS : SegP f (f + i + 1) B ((B.set f y).set (f + i) x) := SegP.of_swap (by omega) (by omega) (by omega) (by omega) hx hy
 have hle : Le2 lt f (f + (i + 1)) (f + (i + 1)) (f + hi) ((B.set f y).set (f + i) x) := h.le.left hS (Nat.le_refl _) (by omega) (Nat.le_refl _)
 refine ⟨?_, ?_, ?_⟩
 ·intro r c u v h1 h2 h3 hu hv
  unfold Kid at h2
  rw [g, if_neg (by omega), if_neg (by omega)] at hu hv
  exact h.heap r c u v (by omega) (by unfold Kid; omega) (by omega) hu hv
 ·refine Srt.join (m := f + (i + 1)) (Srt.short (by omega)) (h.srt.out hS (.inr (by omega))) (hle.sub (by omega) (Nat.le_refl _) (Nat.le_refl _) (Nat.le_refl _))
 ·intro p q u v h1 h2 h3 h4 hu hv
  by_cases e : q = f + i
  ·subst e
   rw [g, if_pos rfl] at hv; cases hv
   rw [g, if_neg (by omega)] at hu
   by_cases e2 : p = f
   ·rw [if_pos e2] at hu; cases hu
    exact hm i y (by omega) hy
   ·rw [if_neg e2] at hu
    obtain ⟨k, rfl⟩ : ∃ k, p = f + k := ⟨p - f, by omega⟩
    exact hm k u (by omega) hu
  ·exact hle p q u v h1 (by omega) (by omega) h4 hu hv
structure Cut3 (lt : α → α → Bool) (a m b : Nat) (B : List α) : Prop where
 lo : ∀ k x y, a ≤ k → k < m → B[k]? = some x → B[m]? = some y → lt y x = false
 hi : ∀ k x y, m < k → k < b → B[k]? = some x → B[m]? = some y → lt x y = false
structure Part (lt : α → α → Bool) (a i j b : Nat) (pv : α) (B : List α) : Prop where
 at_ : B[a]? = some pv
 lo : Z6w (fun x => lt x pv = true) (a + 1) i B
 hi : Z6w (fun x => lt x pv = false) (j + 1) b B
theorem Part.start (h : B[a]? = some x) (_hb : a < b) : Part lt a (a + 1) (b - 1) b x B := ⟨h, fun k _ h1 h2 _ => by omega, fun k _ h1 h2 _ => by omega⟩
theorem Part.swap {pv : α} (h : Part lt a i j b pv B) (ha : a < i) (hij : i < j) (hx : B[i]? = some x) (hy : B[j]? = some y) (h1 : lt x pv = false) (h2 : lt y pv = true) : Part lt a (i + 1) (j - 1) b pv ((B.set i y).set j x) := by
 have g := Z2D hx hy
 refine ⟨by rw [g, if_neg (by omega), if_neg (by omega)]; exact h.at_, ?_, ?_⟩
 ·intro k u h3 h4 hu
  rw [g, if_neg (by omega)] at hu
  split at hu
  ·cases hu; exact h2
  ·exact h.lo k u h3 (by omega) hu
 ·intro k u h3 h4 hu
  rw [g] at hu
  split at hu
  ·cases hu; exact h1
  ·rw [if_neg (by omega)] at hu
   exact h.hi k u (by omega) h4 hu
theorem Part.done (hw : SW lt) {pv : α} (h : Part lt a i j b pv B) (ha : a ≤ j) (hij : j < i) (hij2 : i ≤ j + 1) (hy : B[j]? = some y) (h2 : j ≠ a → lt y pv = true) : Cut3 lt a j b ((B.set j pv).set a y) := by
 have g := Z2D hy h.at_
 have hm : ((B.set j pv).set a y)[j]? = some pv := by
  rw [g]
  split
  ·rename_i e; subst e; rw [h.at_] at hy; exact hy.symm
  ·rw [if_pos rfl]
 refine ⟨?_, ?_⟩
 ·intro k u v h3 h4 hu hv
  rw [hm] at hv; cases hv
  rw [g] at hu
  split at hu
  ·cases hu; exact hw.asym _ _ (h2 (by omega))
  ·rw [if_neg (by omega)] at hu
   exact hw.asym _ _ (h.lo k u (by omega) (by omega) hu)
 ·intro k u v h3 h4 hu hv
  rw [hm] at hv; cases hv
  rw [g, if_neg (by omega), if_neg (by omega)] at hu
  exact h.hi k u (by omega) h4 hu
structure PartE (lt : α → α → Bool) (a i j b : Nat) (pv : α) (B : List α) : Prop where
 at_ : B[a]? = some pv
 lo : Z6w (fun x => lt pv x = false) a i B
 hi : Z6w (fun x => lt pv x = true) (j + 1) b B
theorem PartE.start (hw : SW lt) (h : B[a]? = some x) (hb : a < b) : PartE lt a (a + 1) (b - 1) b x B :=
  ⟨h, fun k u h1 h2 hu => by obtain rfl : k = a := by omega
                             rw [h] at hu; cases hu; exact hw.irrefl _, fun k _ h1 h2 _ => by omega⟩
theorem PartE.swap {pv : α} (h : PartE lt a i j b pv B) (ha : a < i) (hij : i < j) (hx : B[i]? = some x) (hy : B[j]? = some y) (h1 : lt pv x = true) (h2 : lt pv y = false) : PartE lt a (i + 1) (j - 1) b pv ((B.set i y).set j x) := by
 have g := Z2D hx hy
 refine ⟨by rw [g, if_neg (by omega), if_neg (by omega)]; exact h.at_, ?_, ?_⟩
 ·intro k u h3 h4 hu
  rw [g, if_neg (by omega)] at hu
  split at hu
  ·cases hu; exact h2
  ·exact h.lo k u h3 (by omega) hu
 ·intro k u h3 h4 hu
  rw [g] at hu
  split at hu
  ·cases hu; exact h1
  ·rw [if_neg (by omega)] at hu
   exact h.hi k u (by omega) h4 hu
structure Pdq (lt : α → α → Bool) (a0 b0 a b : Nat) (A B : List α) : Prop where
 seg : SegP a0 b0 A B
 ab : a0 ≤ a ∧ a ≤ b ∧ b ≤ b0
 lo : Srt lt a0 a B
 l2 : Le2 lt a0 a a b0 B
 hi : Srt lt b b0 B
 h2 : Le2 lt a0 b b b0 B
def Low (lt : α → α → Bool) (a b : Nat) (A : List α) : Prop := a = 0 ∨ Le2 lt (a - 1) a a b A
theorem Low.seg (h : Low lt a b A) (hS : SegP a b A B) : Low lt a b B := h.elim .inl fun h => .inr (h.right hS (Nat.le_refl _) (Nat.le_refl _) (Nat.le_refl _))
theorem Low.sub (h : Low lt a b A) (hb : d ≤ b) : Low lt a d A := h.elim .inl fun h => .inr (h.sub (Nat.le_refl _) (Nat.le_refl _) (Nat.le_refl _) hb)
theorem Pdq.start (h : a ≤ b) : Pdq lt a b a b A A := ⟨.refl, by omega, Srt.short (by omega), fun p q _ _ h1 h2 _ _ _ _ => by omega, Srt.short (by omega), fun p q _ _ _ _ h1 h2 _ _ => by omega⟩
theorem Pdq.low {a0 b0 : Nat} (h : Pdq lt a0 b0 a b A B) (hl : Low lt a0 b0 A) : Low lt a b B := by
 have hab := h.ab
 by_cases e : a = a0
 ·subst e
  rcases hl.seg h.seg with h1 | h1
  ·exact .inl h1
  ·exact .inr (h1.sub (Nat.le_refl _) (Nat.le_refl _) (Nat.le_refl _) (by omega))
 ·exact .inr (h.l2.sub (by omega) (Nat.le_refl _) (Nat.le_refl _) (by omega))
theorem Pdq.done {a0 b0 : Nat} (h : Pdq lt a0 b0 a b A B) (hs : Srt lt a b B) : Srt lt a0 b0 B := by
 have hab := h.ab
 refine (h.lo.join (hs.join h.hi ?_) ?_)
 ·exact h.h2.sub (by omega) (Nat.le_refl _) (Nat.le_refl _) (Nat.le_refl _)
 ·exact h.l2.sub (Nat.le_refl _) (Nat.le_refl _) (Nat.le_refl _) (Nat.le_refl _)
theorem Pdq.equal (hw : SW lt) {a0 b0 : Nat} {pv : α} (h : Pdq lt a0 b0 a b A B) (ha : a < m) (hm : m ≤ b) (h1 : Z6w (fun x => lt pv x = false) a m B) (h2 : Z6w (fun x => lt pv x = true) m b B) (h3 : Z6w (fun x => lt x pv = false) a b B) : Pdq lt a0 b0 m b A B := by
 have hab := h.ab
 have hs : Srt lt a m B := fun p q x y e1 e2 e3 hx hy => hw.neg _ _ _ (h3 q y (by omega) (by omega) hy) (h1 p x e1 (by omega) hx)
 refine ⟨h.seg, by omega, ?_, ?_, h.hi, h.h2⟩
 ·exact h.lo.join hs (h.l2.sub (Nat.le_refl _) (Nat.le_refl _) (Nat.le_refl _) (by omega))
 ·intro p q x y e1 e2 e3 e4 hx hy
  by_cases e5 : p < a
  ·exact h.l2 p q x y e1 e5 (by omega) e4 hx hy
  ·by_cases e6 : q < b
   ·exact hw.neg _ _ _ (hw.asym _ _ (h2 q y e3 e6 hy)) (h1 p x (by omega) (by omega) hx)
   ·exact h.h2 p q x y (by omega) (by omega) (by omega) e4 hx hy
theorem Cut3.left (h : Cut3 lt a m b B) (hS : SegP a m B C) : Cut3 lt a m b C :=
  ⟨fun k x y h1 h2 hx hy => by
    rw [hS.out (.inr (Nat.le_refl _))] at hy
    exact hS.all (p := fun x => lt y x = false) (Nat.le_refl _) (Nat.le_refl _) (fun k u h3 h4 hu => h.lo k u y h3 h4 hu hy) k x h1 h2 hx,
   fun k x y h1 h2 hx hy => by
    rw [hS.out (.inr (by omega))] at hx
    rw [hS.out (.inr (Nat.le_refl _))] at hy
    exact h.hi k x y h1 h2 hx hy⟩
theorem Cut3.low (h : Cut3 lt a m b B) : Low lt (m + 1) b B := .inr fun p q x y h1 h2 h3 h4 hx hy => by
 obtain rfl : p = m := by omega
 exact h.hi q y x (by omega) h4 hy hx
end
end Go.Proofs.YtoaifondpohniaaGreat
