/- WHAT IS PROVED: contracts and plain laws of VaR. Conditions: stated with each. -/
import Derived.Test.YtenihpghfdcpkaaGreatPV02
import Derived.Test.YtenihpghfdcpkaaGreatPV05
import Derived.Test.YtenihpghfdcpkaaGreatPV13
import Derived.Test.YtenihpghfdcpkaaGreatPV30
set_option maxHeartbeats 4000000
set_option maxRecDepth 100000
namespace Go.Proofs.YtenihpghfdcpkaaGreat
open Go.RowKit
abbrev Z1x (p0 : Int) (p1 : Int) : List Value := ([i6 p0, i6 p1] : LV)
abbrev Z5Q (p0 : Z1s) : List Value := ([i6 p0.r, i6 p0.i, i6 p0.sb, i6 p0.sm] : LV)
abbrev Z4P (p0 : Int) (p1 : Int) (p2 : Int) (p3 : Int) (p4 : Value) (p5 : Option Addr) (p6 : Nat) (p7 : Nat) : List Value := ([i6 p0, i6 p1, i6 p2, u6 p3, p4, (.slice p5 p6 p7)] : LV)
abbrev Z6s : List Value := ([i6 0, i6 0] : LV) ++ hc Zz ++ ([u6 0] : LV)
abbrev Zat (p0 : Z1g) : List Value := ([i6 p0.cl, i6 p0.sq] : LV) ++ hc p0.h ++ ([u6 p0.t] : LV)
abbrev Z7k (p0 : Int) (p1 : Int) (p2 : Option Addr) (p3 : Nat) (p4 : Nat) (p5 : Option Addr) (p6 : Nat) (p7 : Nat) (p8 : Option Addr) (p9 : Nat) (p10 : Nat) : List Value := ([i6 p0, u6 p1, (.slice p2 p3 p4), (.slice p5 p6 p7), (.slice p8 p9 p10)] : LV)
abbrev Z6X (p0 : PrR) (p1 : Nat) : List Value := ([i6 p0.r, i6 p0.e, u6 p0.f, (.slice p0.ca p1 p0.cc), i6 p0.sb, i6 p0.sm] : LV)
abbrev kVaR_7 : List Value := ([i6 0, i6 0, u6 0, (.slice none 0 0), i6 0, i6 0] : LV)
abbrev Z6F (p0 : OpR) (p1 : Nat) : List Value := ([i6 p0.i, (.slice p0.pa p1 p0.pc)] : LV) ++ hc p0.h
abbrev Z5N (p0 : Z3x) : List Value := ([i6 p0.cl, i6 p0.sq] : LV) ++ hc p0.h ++ ([u6 p0.t] : LV)
abbrev Z7W (p0 : Z3x) : List Value := ([i6 p0.cl, i6 p0.sq] : LV)
abbrev Z3Q (p0 : TbR) (p1 : Nat) : List Value := ([i6 p0.i, (.slice p0.da p1 p0.dc)] : LV)
theorem Z9W {L : List OpR} {i : Nat} (h : i < L.length) : L.getD i op0 ∈ L := by
 rw [List.getD_eq_getElem?_getD, List.getElem?_eq_getElem h]; exact List.getElem_mem h
def spE (s : Z1g) : Z3x := ⟨s.cl, s.sq, s.h, s.t⟩
def SpM (O : List Z1g) (M : List (Int × Z3x)) : Prop := ∀ ix, Zv M ix = (O.find? fun s => decide (s.i = ix)).map spE
section
variable {α : Type} {p : α → Bool} {L : List α} {d : α} {i : Nat}
theorem Z6S (h : ∀ j, j < i → p (L.getD j d) = false) (hi : i < L.length) (hp : p (L.getD i d) = true) : L.find? p = some (L.getD i d) := by
 have e : ∀ j (hj : j < L.length), L.getD j d = L[j] := fun j hj => by rw [List.getD_eq_getElem?_getD, List.getElem?_eq_getElem hj]; rfl
 rw [e i hi] at hp ⊢
 rw [List.find?_eq_some_iff_getElem]
 exact ⟨hp, i, hi, rfl, fun j hj => by have q := h j hj; rw [e j om] at q; simp [q]⟩
theorem Z3D (h : ∀ j, j < L.length → p (L.getD j d) = false) : L.find? p = none := by
 rw [List.find?_eq_none]
 intro x hx
 obtain ⟨j, hj, rfl⟩ := List.mem_iff_getElem.1 hx
 have q := h j hj
 rw [List.getD_eq_getElem?_getD, List.getElem?_eq_getElem hj] at q
 simpa using q
end
theorem Zax {OS : List OpR} {n : Int} (h : ∀ j, j < OS.length → decide ((OS.getD j op0).i = n) = false) : Z7i (fun x : OpR => x.i) OS n = false := by
 rw [Bool.eq_false_iff]
 intro q
 obtain ⟨o, ho, e⟩ := Z65.1 q
 obtain ⟨j, hj, rfl⟩ := List.mem_iff_getElem.1 ho
 have r := h j hj
 rw [List.getD_eq_getElem?_getD, List.getElem?_eq_getElem hj] at r
 exact absurd e (of_decide_eq_false r)
theorem Zad {OS : List OpR} {n : Int} {j : Nat} (hj : j < OS.length) (h : decide ((OS.getD j op0).i = n) = true) : Z7i (fun x : OpR => x.i) OS n = true := Z65.2 ⟨_, Z9W hj, of_decide_eq_true h⟩
theorem Z4T (w : World) (F c : Int) (hF : 1 ≤ F ∧ F ≤ 1099511627776) (r : Nat) (ra : Option Addr) (rc : Nat) (L : List Signed) (hb : (Z0 r 165 [.slice ra L.length rc]).ok w) (hr : (Zo 181 2 (.slice ra L.length rc) L.length (L.flatMap Z47)).ok w) (hn : L.Nodup) (hL : L.length ≤ 1000000) (d : Z1s) (hd : ZcP d) :
  Calls Tryz.prog 71 #[(.agg ⟨([i6 F, i6 c] : LV)⟩), zp r, (.agg ⟨([i6 d.r, i6 d.i, i6 d.sb, i6 d.sm] : LV)⟩)] w fun e w' => e = .returned (.bool (Z0Q F L d)) ∧ Upd [] w w' := by
 have H := Sat.start0 w
 have hd2 := hd
 unfold ZcP at hd2
 refine Zg Tryz.func71 rfl 38 rfl kn ?_
 refine zsl <| zy <| zdb (Z1x F c) H fun b2 w3 H4 => ?_
 refine kk <| zy <| zdb (Z5Q d) H4 fun b6 w7 H8 => ?_
 refine kk <| wv 6 (.bool false) <| znt <| Z9 <| Z0a H8 [zR w, Z0 b2 29 (Z1x F c), Z0 b6 122 (Z5Q d)] 32 rfl kr (fun Hx => (Hx.pk [0, 1, 2])) fun w9 H10 S11 => ?_
 refine hv0 0 S11 7 (pt b6 0) <| hv0 1 S11 8 (vi d.r) ?_ (he := fun _ H' => (zl1 (H'.cell 2 rfl rfl)))
 refine hv0 2 S11 9 (.bool (decide (d.r ≥ 0))) <| hv0 3 S11 10 (.bool (decide (d.r ≥ 0))) ?_
 refine zih 10 (fun b12 g13 => ?_) fun b12 g50 => ?_
 ·refine Z0U 4 S11 3 10 true 11 (pt b6 0) <| Z0U 5 S11 3 10 true 12 (vi d.r) ?_ (he := fun _ H' => (zl1 (H'.cell 2 rfl rfl)))
  refine Z0U 6 S11 3 10 true 13 (.agg ⟨(Z1x F c)⟩) ?_ (he := fun _ H' => (zlN (vs := (Z1x F c)) (H'.at 1 rfl)))
  refine Z34 7 rfl kr (Z05 3 10 true rfl kr rfl kr) (fun Kq kq => ?_)
  refine zdq 14 (Z7o w9 F c om) H10 ?_
  intro w16 H17
  have S19 := H17.pk [0, 1, 2]
  refine kq _ _ S19 <| Z0U 8 S19 3 10 true 15 (.bool (decide (d.r < (3 * F + 1)))) <| hv0 9 S19 16 (.bool (decide (d.r < (3 * F + 1)))) <| hv0 10 S19 17 (.bool (decide (d.r < (3 * F + 1)))) ?_
  refine zih 17 (fun b20 g21 => ?_) fun b20 g48 => ?_
  ·refine Z0U 11 S19 10 17 true 18 (pt b6 1) <| Z0U 12 S19 10 17 true 19 (vi d.i) ?_ (he := fun _ H' => (zl1 (H'.cell 2 rfl rfl)))
   refine Z0U 13 S19 10 17 true 20 (.bool (decide (d.i ≥ 0))) <| hv0 14 S19 21 (.bool (decide (d.i ≥ 0))) <| hv0 15 S19 22 (.bool (decide (d.i ≥ 0))) ?_
   refine zih 22 (fun b23 g24 => ?_) fun b23 g46 => ?_
   ·refine Z0U 16 S19 15 22 true 23 (pt b6 2) <| Z0U 17 S19 15 22 true 24 (pt b6 2) <| Z0U 18 S19 15 22 true 25 (vi d.sb) ?_ (he := fun _ H' => (zl1 (H'.cell 2 rfl rfl)))
    refine Z0U 19 S19 15 22 true 26 (pt b6 0) <| Z0U 20 S19 15 22 true 27 (vi d.r) ?_ (he := fun _ H' => (zl1 (H'.cell 2 rfl rfl)))
    refine Z0U 21 S19 15 22 true 28 (.bool (decide (d.sb = d.r))) <| hv0 22 S19 29 (.bool (decide (d.sb = d.r))) <| hv0 23 S19 30 (.bool (decide (d.sb = d.r))) ?_
    refine zih 30 (fun b26 g27 => ?_) fun b26 g44 => ?_
    ·refine Z0U 24 S19 23 30 true 31 (pt r 0) <| Z0U 25 S19 23 30 true 32 (pt b6 2) <| Z0U 26 S19 23 30 true 33 (.agg ⟨(Z1x d.sb d.sm)⟩) ?_ (he := fun _ H' => (zlN (vs := (Z1x d.sb d.sm)) (H'.at 2 rfl)))
     refine Z0U 27 S19 23 30 true 34 (.agg ⟨(Z5Q d)⟩) ?_ (he := fun _ H' => (zlN (vs := (Z5Q d)) (H'.at 2 rfl)))
     refine Z34 28 rfl kr (Z05 23 30 true rfl kr rfl kr) (fun Kq kq => ?_)
     refine zdc 35 (Z3U w16 d ⟨by show d.r ≤ _; omega, by show d.i ≤ _; omega⟩) ?_
     rintro _ w30 ⟨u31, rfl, k32, p33, q34⟩
     have hdl := Z5i d.r d.i
     have H35 := H17.addU p33 k32 q34
     obtain ⟨a36, c37, rfl⟩ := Z3 (H35.at 3 rfl)
     refine ⟨_, rfl, ?_⟩
     have S38 := H35.pk [0, 1, 2]
     refine kq _ _ S38 <| Z34 29 rfl kr (Z05 23 30 true rfl kr rfl kr) (fun Kq kq => ?_)
     refine zdq 36 (Z3S w30 r ra rc L (H35.roCk 0 rfl hb (fun _ _ h => h)) (H35.roCk 0 rfl hr (fun _ _ h => h)) hn hL a36 c37 (Z0m d.r d.i) (ListAt.row (enc := Zx) (sz := 1) Zw (by decide) (H35.at 3 rfl)) d.sb d.sm) H35 ?_
     intro w40 H41
     have S43 := H41.pk [0, 1, 2]
     refine kq _ _ S43 <| hv0 30 S43 37 (.bool (Z0B L d.sb d.sm (Z0m d.r d.i))) <| hv0 31 S43 6 (.bool (Z0B L d.sb d.sm (Z0m d.r d.i))) <| zhf <| ztn <| Zk <| ze1 (.bool (Z0B L d.sb d.sm (Z0m d.r d.i))) ?_
     exact ⟨by unfold Z0Q inB; simp [b12, b20, b23, b26], H41.upd 0 rfl [] ne⟩
    refine Zu 24 S19 23 30 true ?_
    refine Zu 25 S19 23 30 true ?_
    refine Zu 26 S19 23 30 true ?_
    refine Zu 27 S19 23 30 true ?_
    refine Zu 28 S19 23 30 true ?_
    refine Zu 29 S19 23 30 true ?_
    refine hv0 30 S19 37 (.bool false) <| hv0 31 S19 6 (.bool false) <| zhf <| ztn <| Zk <| ze1 (.bool false) ?_
    exact ⟨by unfold Z0Q inB; simp [b12, b20, b23, b26], H17.upd 0 rfl [] ne⟩
   refine Zu 16 S19 15 22 true ?_
   refine Zu 17 S19 15 22 true ?_
   refine Zu 18 S19 15 22 true ?_
   refine Zu 19 S19 15 22 true ?_
   refine Zu 20 S19 15 22 true ?_
   refine Zu 21 S19 15 22 true ?_
   refine hv0 22 S19 29 (.bool false) <| hv0 23 S19 30 (.bool false) <| Zu 24 S19 23 30 true ?_
   refine Zu 25 S19 23 30 true ?_
   refine Zu 26 S19 23 30 true ?_
   refine Zu 27 S19 23 30 true ?_
   refine Zu 28 S19 23 30 true ?_
   refine Zu 29 S19 23 30 true ?_
   refine hv0 30 S19 37 (.bool false) <| hv0 31 S19 6 (.bool false) <| zhf <| ztn <| Zk <| ze1 (.bool false) ?_
   exact ⟨by unfold Z0Q inB; simp [b12, b20, b23], H17.upd 0 rfl [] ne⟩
  refine Zu 11 S19 10 17 true ?_
  refine Zu 12 S19 10 17 true ?_
  refine Zu 13 S19 10 17 true ?_
  refine hv0 14 S19 21 (.bool false) <| hv0 15 S19 22 (.bool false) <| Zu 16 S19 15 22 true ?_
  refine Zu 17 S19 15 22 true ?_
  refine Zu 18 S19 15 22 true ?_
  refine Zu 19 S19 15 22 true ?_
  refine Zu 20 S19 15 22 true ?_
  refine Zu 21 S19 15 22 true ?_
  refine hv0 22 S19 29 (.bool false) <| hv0 23 S19 30 (.bool false) <| Zu 24 S19 23 30 true ?_
  refine Zu 25 S19 23 30 true ?_
  refine Zu 26 S19 23 30 true ?_
  refine Zu 27 S19 23 30 true ?_
  refine Zu 28 S19 23 30 true ?_
  refine Zu 29 S19 23 30 true ?_
  refine hv0 30 S19 37 (.bool false) <| hv0 31 S19 6 (.bool false) <| zhf <| ztn <| Zk <| ze1 (.bool false) ?_
  exact ⟨by unfold Z0Q inB; simp [b12, b20], H17.upd 0 rfl [] ne⟩
 refine Zu 4 S11 3 10 true ?_
 refine Zu 5 S11 3 10 true ?_
 refine Zu 6 S11 3 10 true ?_
 refine Zu 7 S11 3 10 true ?_
 refine Zu 8 S11 3 10 true ?_
 refine hv0 9 S11 16 (.bool false) <| hv0 10 S11 17 (.bool false) <| Zu 11 S11 10 17 true ?_
 refine Zu 12 S11 10 17 true ?_
 refine Zu 13 S11 10 17 true ?_
 refine hv0 14 S11 21 (.bool false) <| hv0 15 S11 22 (.bool false) <| Zu 16 S11 15 22 true ?_
 refine Zu 17 S11 15 22 true ?_
 refine Zu 18 S11 15 22 true ?_
 refine Zu 19 S11 15 22 true ?_
 refine Zu 20 S11 15 22 true ?_
 refine Zu 21 S11 15 22 true ?_
 refine hv0 22 S11 29 (.bool false) <| hv0 23 S11 30 (.bool false) <| Zu 24 S11 23 30 true ?_
 refine Zu 25 S11 23 30 true ?_
 refine Zu 26 S11 23 30 true ?_
 refine Zu 27 S11 23 30 true ?_
 refine Zu 28 S11 23 30 true ?_
 refine Zu 29 S11 23 30 true ?_
 refine hv0 30 S11 37 (.bool false) <| hv0 31 S11 6 (.bool false) <| zhf <| ztn <| Zk <| ze1 (.bool false) ?_
 exact ⟨by unfold Z0Q inB; simp [b12], H10.upd 0 rfl [] ne⟩
theorem Z3A (w : World) (F c : Int) (hF : 1 ≤ F ∧ F ≤ 1099511627776) (r : Nat) (ra : Option Addr) (rc : Nat) (L : List Signed) (hb : (Z0 r 165 [.slice ra L.length rc]).ok w) (hr : (Zo 181 2 (.slice ra L.length rc) L.length (L.flatMap Z47)).ok w) (hn : L.Nodup) (hL : L.length ≤ 1000000) (ix : Int) (da : Option Addr) (dc : Nat) (D : List Z1s) (hD : ListAt Z4v 4 w (.slice da D.length dc) D) (hok : ∀ i, i < D.length → ZcP (D.getD i Z0F)) (hlD : D.length ≤ 1000000) :
  Calls Tryz.prog 22 #[(.agg ⟨([i6 F, i6 c] : LV)⟩), zp r, (.agg ⟨([i6 ix, (.slice da D.length dc)] : LV)⟩)] w fun e w' => e = .returned (.bool (Z0j F L ix D)) ∧ Upd [] w w' := by
 have H := Sat.start0 w
 refine Zg Tryz.func22 rfl 61 rfl kn ?_
 refine zsl <| zy <| zdb (Z1x F c) H fun b2 w3 H4 => ?_
 refine kk <| zy <| zdb ([(vi ix), (.slice da D.length dc)] : LV) H4 fun b6 w7 H8 => ?_
 refine kk <| wv 6 (.bool false) <| znt <| Z9 <| Z9 <| zqs H8 ?_
 refine qv 8 (pt b6 1) <| qv 9 (.slice da D.length dc) ?_ (hr := fun _ H' => (zl1 (H'.cell 2 rfl rfl)))
 refine Z4a (Zc rfl) (d := 10) (v := (vi D.length)) rfl (fun _ H' => kr) ?_
 refine qv 11 (.agg ⟨(Z1x F c)⟩) ?_ (hr := fun _ H' => (zlN (vs := (Z1x F c)) (H'.at 1 rfl)))
 refine Z0r (Zc rfl) (d := 12) (v := (vi (2 * F + 1))) rfl (fun _ _ => by kernel_rfl) (fun w' H' => (Z5R w' F c om).mono fun _ _ h => ⟨h.1, H'.keepU h.2⟩) ?_
 refine qv 13 (.bool (!(decide ((D.length : Int) = (2 * F + 1))))) <| Z01 fun w9 H10 => ?_
 refine Z0Y ?_
 refine (ZY (!(decide ((D.length : Int) = (2 * F + 1))))).elim (fun b11 => ?_) (fun b11 => ?_)
 ·have g12 := Z7 b11
  have g13 := of_decide_eq_false g12
  refine Zn 13 (.bool true) (congrArg Value.bool b11) ?_
  have g14 := Z7 b11
  have g15 := of_decide_eq_false g14
  refine Z06 rfl ?_
  refine zsl <| wv 6 (.bool false) <| znt <| Zk <| Z4 <| ze1 (.bool false) ?_
  have n16 := Z7 b11
  exact ⟨by simp only [Z0j, n16, bls], H10.upd 0 rfl [] ne⟩
 have g17 := Z2 b11
 have g18 := of_decide_eq_true g17
 refine Z3L _ b11 ?_
 refine Zp <| ztn <| Z9 <| zsl <| wv 14 (pt b6 1) <| zw1 15 (.slice da D.length dc) (H10.cell 2 rfl rfl) <| wv 16 (vi D.length) <| wv 17 (vi 0) <| znt <| Zh ?_
 have n21 := Z2 b11
 refine ZB ([6, 7] ++ List.range' 17 44) (fun F_ W_ m_ => ∃ (i : Nat), F_ 17 = (vi i) ∧ (i ≤ D.length) ∧ (∀ j, j < i → Z19 F L ix D j = true) ∧ Sat w [zR w, Z0 b2 29 (Z1x F c), Z0 b6 89 ([(vi ix), (.slice da D.length dc)] : LV)] W_ ∧ m_ = D.length - i) _ ⟨0, (show ((vi 0) : Value) = _ by first | rfl | go_num), (Nat.zero_le _), (fun _ h => absurd h (Nat.not_lt_zero _)), H10, rfl⟩ ?_
 rintro g22 w23 _ ⟨i, v25, hi, hall, H24, rfl⟩
 refine Zn 17 _ v25 ?_
 refine zsl <| wv 18 (.bool (decide ((i : Int) < D.length))) <| znt <| Z9 ?_
 refine zid (fun b27 g28 => ?_) fun b27 g103 => ?_
 ·refine Zp <| ztn <| Z9 <| Zh <| zsl <| wv 19 (vi i) <| wv 7 (vi i) <| znt <| Z9 <| zqs H24 ?_
  refine qv 20 (vi i) <| qv 21 (.bool (decide ((i : Int) > 0))) <| qv 22 (.bool (decide ((i : Int) > 0))) ?_
  refine ziq 22 (fun b30 g31 => ?_) fun b30 g73 => ?_
  ·refine qy 2 22 true 23 (pt b6 1) <| qy 2 22 true 24 (.slice da D.length dc) ?_ (hr := fun _ H' => (zl1 (H'.cell 2 rfl rfl)))
   refine qy 2 22 true 25 (vi i) ?_
   obtain ⟨g33, o34, c35, e36, R37⟩ := SliceOf.atD hD Z0F (show i < D.length by omega)
   refine qy 2 22 true 26 (.pointer (some ⟨g33, o34 + ((i : Int)).toNat * 4, none⟩)) ?_ (hr := fun _ H' => (Z8 (E := 122) kr kr kn rfl e36 rfl om om))
   refine qy 2 22 true 27 (.pointer (some ⟨g33, o34 + ((i : Int)).toNat * 4, none⟩)) <| qy 2 22 true 28 (vi ((D.getD i Z0F).r)) ?_ (hr := fun _ H' => (zl1 (H'.cellR 0 rfl (Z0f R37 0 kr (show o34 + ((i : Int)).toNat * 4 = o34 + i * 4 + 0 by omega)) (fun h => h))))
   refine qy 2 22 true 29 (pt b6 1) <| qy 2 22 true 30 (.slice da D.length dc) ?_ (hr := fun _ H' => (zl1 (H'.cell 2 rfl rfl)))
   refine qy 2 22 true 31 (vi i) <| qy 2 22 true 32 (vi ((i : Int) - 1)) ?_ (hr := fun _ H' => (Z0A (z := (i : Int) - 1) kr (IntWalk.i64_in _ om)))
   obtain ⟨g38, o39, c40, e41, R42⟩ := SliceOf.atD hD Z0F (show ((i : Int) - 1).toNat < D.length by omega)
   refine qy 2 22 true 33 (.pointer (some ⟨g38, o39 + ((i : Int) - 1).toNat * 4, none⟩)) ?_ (hr := fun _ H' => (Z8 (E := 122) kr kr kn rfl e41 rfl om om))
   refine qy 2 22 true 34 (.pointer (some ⟨g38, o39 + ((i : Int) - 1).toNat * 4, none⟩)) <| qy 2 22 true 35 (vi ((D.getD ((i : Int) - 1).toNat Z0F).r)) ?_ (hr := fun _ H' => (zl1 (H'.cellR 0 rfl (Z0f R42 0 kr (show o39 + ((i : Int) - 1).toNat * 4 = o39 + ((i : Int) - 1).toNat * 4 + 0 by omega)) (fun h => h))))
   refine qy 2 22 true 36 (.bool (decide (((D.getD i Z0F).r) ≤ ((D.getD ((i : Int) - 1).toNat Z0F).r)))) <| qv 37 (.bool (decide (((D.getD i Z0F).r) ≤ ((D.getD ((i : Int) - 1).toNat Z0F).r)))) <| qv 38 (.bool (decide (((D.getD i Z0F).r) ≤ ((D.getD ((i : Int) - 1).toNat Z0F).r)))) ?_
   refine ziq 38 (fun b43 g44 => ?_) fun b43 g48 => ?_
   ·iterate 9 refine qn 18 38 false ?_
    refine qv 48 (.bool true) <| qv 49 (.bool true) ?_
    iterate 9 refine qn 29 49 false ?_
    refine qv 59 (.bool true) <| Z01 fun w46 H47 => ?_
    refine ztn <| Z06 rfl ?_
    refine zsl <| wv 6 (.bool false) <| znt <| Zk <| Zf <| Z4 <| Zs <| Zf <| Z4 <| ze1 (.bool false) ?_
    have e1 : ((i : Int) - 1).toNat = i - 1 := by omega
    have ho : Z19 F L ix D i = false := by unfold Z19; rw [← e1]; simp only [b27, b30, b43, bls]
    exact ⟨by simp only [Z0j, ZP (show i < D.length by omega) ho, Bool.false_and], H47.upd 0 rfl [] ne⟩
   refine qy 18 38 false 39 (pt b6 1) <| qy 18 38 false 40 (.slice da D.length dc) ?_ (hr := fun _ H' => (zl1 (H'.cell 2 rfl rfl)))
   refine qy 18 38 false 41 (vi i) <| qy 18 38 false 42 (.pointer (some ⟨g33, o34 + ((i : Int)).toNat * 4, none⟩)) ?_ (hr := fun _ H' => (Z8 (E := 122) kr kr kn rfl e36 rfl om om))
   refine qy 18 38 false 43 (.pointer (some ⟨g33, o34 + ((i : Int)).toNat * 4 + 1, none⟩)) <| qy 18 38 false 44 (vi ((D.getD i Z0F).i)) ?_ (hr := fun _ H' => (zl1 (H'.cellR 0 rfl (Z0f R37 1 kr (show o34 + ((i : Int)).toNat * 4 + 1 = o34 + i * 4 + 1 by omega)) (fun h => h))))
   refine qy 18 38 false 45 (pt b6 0) <| qy 18 38 false 46 (vi ix) ?_ (hr := fun _ H' => (zl1 (H'.cell 2 rfl rfl)))
   refine qy 18 38 false 47 (.bool (!(decide (((D.getD i Z0F).i) = ix)))) <| qv 48 (.bool (!(decide (((D.getD i Z0F).i) = ix)))) <| qv 49 (.bool (!(decide (((D.getD i Z0F).i) = ix)))) ?_
   refine (ZY (!(decide (((D.getD i Z0F).i) = ix)))).elim (fun b50 => ?_) (fun b50 => ?_)
   ·have g51 := Z7 b50
    have g52 := of_decide_eq_false g51
    refine Z09 49 (.bool true) (congrArg Value.bool b50) ?_
    iterate 9 refine qn 29 49 false ?_
    refine qv 59 (.bool true) <| Z01 fun w55 H56 => ?_
    refine ztn <| Z06 rfl ?_
    refine zsl <| wv 6 (.bool false) <| znt <| Zk <| Zf <| Z4 <| Zs <| Zf <| Z4 <| ze1 (.bool false) ?_
    have n57 := Z7 b50
    have e1 : ((i : Int) - 1).toNat = i - 1 := by omega
    have ho : Z19 F L ix D i = false := by unfold Z19; rw [← e1]; simp only [b27, b30, b43, n57, bls]
    exact ⟨by simp only [Z0j, ZP (show i < D.length by omega) ho, Bool.false_and], H56.upd 0 rfl [] ne⟩
   have g58 := Z2 b50
   have g59 := of_decide_eq_true g58
   refine Z09 49 (.bool false) (congrArg Value.bool b50) ?_
   refine qy 29 49 false 50 (.agg ⟨(Z1x F c)⟩) ?_ (hr := fun _ H' => (zlN (vs := (Z1x F c)) (H'.at 1 rfl)))
   refine qy 29 49 false 51 (pt r 0) <| qy 29 49 false 52 (pt b6 1) <| qy 29 49 false 53 (.slice da D.length dc) ?_ (hr := fun _ H' => (zl1 (H'.cell 2 rfl rfl)))
   refine qy 29 49 false 54 (vi i) <| qy 29 49 false 55 (.pointer (some ⟨g33, o34 + ((i : Int)).toNat * 4, none⟩)) ?_ (hr := fun _ H' => (Z8 (E := 122) kr kr kn rfl e36 rfl om om))
   refine qy 29 49 false 56 (.agg ⟨(Z5Q (D.getD i Z0F))⟩) ?_ (hr := fun _ H' => (ZX (vs := (Z5Q (D.getD i Z0F))) rfl kr kr kn (H'.runR 0 rfl (Z08 R37 0 kr (show o34 + ((i : Int)).toNat * 4 = o34 + i * 4 + 0 by omega)) (fun h => h))))
   refine Z0r (Z05 29 49 false rfl kr rfl kr) (d := 57) (v := (.bool (Z0Q F L (D.getD i Z0F)))) rfl (fun _ _ => by kernel_rfl) (fun w' H' => (Z4T w' F c hF r ra rc L (H'.roCk 0 rfl hb (fun _ _ h => h)) (H'.roCk 0 rfl hr (fun _ _ h => h)) hn hL (D.getD i Z0F) (hok _ om)).mono fun _ _ h => ⟨h.1, H'.keepU h.2⟩) ?_
   refine qy 29 49 false 58 (.bool (!(Z0Q F L (D.getD i Z0F)))) <| qv 59 (.bool (!(Z0Q F L (D.getD i Z0F)))) <| Z01 fun w62 H63 => ?_
   apply ztn
   refine (ZY (!(Z0Q F L (D.getD i Z0F)))).elim (fun b64 => ?_) (fun b64 => ?_)
   ·have g65 := Z7 b64
    refine Z48 _ b64 ?_
    refine zsl <| wv 6 (.bool false) <| znt <| Zk <| Zf <| Z4 <| Zs <| Zf <| Z4 <| ze1 (.bool false) ?_
    have n67 := Z2 b50
    have n68 := Z7 b64
    have e1 : ((i : Int) - 1).toNat = i - 1 := by omega
    have ho : Z19 F L ix D i = false := by unfold Z19; rw [← e1]; simp only [b27, b30, b43, n67, n68, bls]
    exact ⟨by simp only [Z0j, ZP (show i < D.length by omega) ho, Bool.false_and], H63.upd 0 rfl [] ne⟩
   have g69 := Z2 b64
   refine Z3L _ b64 ?_
   refine Zp <| Z6 <| ztn <| ZG <| zwi 60 ((i : Int) + 1) <| wv 17 (vi ((i : Int) + 1)) <| ZL ?_
   have n71 := Z2 b50
   have n72 := Z2 b64
   have e1 : ((i : Int) - 1).toNat = i - 1 := by omega
   have ho : Z19 F L ix D i = true := by unfold Z19; rw [← e1]; simp only [b27, b30, b43, n71, n72, bls]
   refine Za ?_ _ ⟨(i + 1), rfl, om, (fun j hj => by rcases Nat.lt_or_ge j i with h | h; exact hall j h; rw [show j = i by omega]; exact ho), H63, rfl⟩ om
   exact zs
  iterate 14 refine qn 2 22 true ?_
  refine qv 37 (.bool false) <| qv 38 (.bool false) <| qy 18 38 false 39 (pt b6 1) <| qy 18 38 false 40 (.slice da D.length dc) ?_ (hr := fun _ H' => (zl1 (H'.cell 2 rfl rfl)))
  refine qy 18 38 false 41 (vi i) ?_
  obtain ⟨g75, o76, c77, e78, R79⟩ := SliceOf.atD hD Z0F (show i < D.length by omega)
  refine qy 18 38 false 42 (.pointer (some ⟨g75, o76 + ((i : Int)).toNat * 4, none⟩)) ?_ (hr := fun _ H' => (Z8 (E := 122) kr kr kn rfl e78 rfl om om))
  refine qy 18 38 false 43 (.pointer (some ⟨g75, o76 + ((i : Int)).toNat * 4 + 1, none⟩)) <| qy 18 38 false 44 (vi ((D.getD i Z0F).i)) ?_ (hr := fun _ H' => (zl1 (H'.cellR 0 rfl (Z0f R79 1 kr (show o76 + ((i : Int)).toNat * 4 + 1 = o76 + i * 4 + 1 by omega)) (fun h => h))))
  refine qy 18 38 false 45 (pt b6 0) <| qy 18 38 false 46 (vi ix) ?_ (hr := fun _ H' => (zl1 (H'.cell 2 rfl rfl)))
  refine qy 18 38 false 47 (.bool (!(decide (((D.getD i Z0F).i) = ix)))) <| qv 48 (.bool (!(decide (((D.getD i Z0F).i) = ix)))) <| qv 49 (.bool (!(decide (((D.getD i Z0F).i) = ix)))) ?_
  refine (ZY (!(decide (((D.getD i Z0F).i) = ix)))).elim (fun b80 => ?_) (fun b80 => ?_)
  ·have g81 := Z7 b80
   have g82 := of_decide_eq_false g81
   refine Z09 49 (.bool true) (congrArg Value.bool b80) ?_
   iterate 9 refine qn 29 49 false ?_
   refine qv 59 (.bool true) <| Z01 fun w85 H86 => ?_
   refine ztn <| Z06 rfl ?_
   refine zsl <| wv 6 (.bool false) <| znt <| Zk <| Zf <| Z4 <| Zs <| Zf <| Z4 <| ze1 (.bool false) ?_
   have n87 := Z7 b80
   have e1 : ((i : Int) - 1).toNat = i - 1 := by omega
   have ho : Z19 F L ix D i = false := by unfold Z19; rw [← e1]; simp only [b27, b30, n87, bls]
   exact ⟨by simp only [Z0j, ZP (show i < D.length by omega) ho, Bool.false_and], H86.upd 0 rfl [] ne⟩
  have g88 := Z2 b80
  have g89 := of_decide_eq_true g88
  refine Z09 49 (.bool false) (congrArg Value.bool b80) ?_
  refine qy 29 49 false 50 (.agg ⟨(Z1x F c)⟩) ?_ (hr := fun _ H' => (zlN (vs := (Z1x F c)) (H'.at 1 rfl)))
  refine qy 29 49 false 51 (pt r 0) <| qy 29 49 false 52 (pt b6 1) <| qy 29 49 false 53 (.slice da D.length dc) ?_ (hr := fun _ H' => (zl1 (H'.cell 2 rfl rfl)))
  refine qy 29 49 false 54 (vi i) <| qy 29 49 false 55 (.pointer (some ⟨g75, o76 + ((i : Int)).toNat * 4, none⟩)) ?_ (hr := fun _ H' => (Z8 (E := 122) kr kr kn rfl e78 rfl om om))
  refine qy 29 49 false 56 (.agg ⟨(Z5Q (D.getD i Z0F))⟩) ?_ (hr := fun _ H' => (ZX (vs := (Z5Q (D.getD i Z0F))) rfl kr kr kn (H'.runR 0 rfl (Z08 R79 0 kr (show o76 + ((i : Int)).toNat * 4 = o76 + i * 4 + 0 by omega)) (fun h => h))))
  refine Z0r (Z05 29 49 false rfl kr rfl kr) (d := 57) (v := (.bool (Z0Q F L (D.getD i Z0F)))) rfl (fun _ _ => by kernel_rfl) (fun w' H' => (Z4T w' F c hF r ra rc L (H'.roCk 0 rfl hb (fun _ _ h => h)) (H'.roCk 0 rfl hr (fun _ _ h => h)) hn hL (D.getD i Z0F) (hok _ om)).mono fun _ _ h => ⟨h.1, H'.keepU h.2⟩) ?_
  refine qy 29 49 false 58 (.bool (!(Z0Q F L (D.getD i Z0F)))) <| qv 59 (.bool (!(Z0Q F L (D.getD i Z0F)))) <| Z01 fun w92 H93 => ?_
  apply ztn
  refine (ZY (!(Z0Q F L (D.getD i Z0F)))).elim (fun b94 => ?_) (fun b94 => ?_)
  ·have g95 := Z7 b94
   refine Z48 _ b94 ?_
   refine zsl <| wv 6 (.bool false) <| znt <| Zk <| Zf <| Z4 <| Zs <| Zf <| Z4 <| ze1 (.bool false) ?_
   have n97 := Z2 b80
   have n98 := Z7 b94
   have e1 : ((i : Int) - 1).toNat = i - 1 := by omega
   have ho : Z19 F L ix D i = false := by unfold Z19; rw [← e1]; simp only [b27, b30, n97, n98, bls]
   exact ⟨by simp only [Z0j, ZP (show i < D.length by omega) ho, Bool.false_and], H93.upd 0 rfl [] ne⟩
  have g99 := Z2 b94
  refine Z3L _ b94 ?_
  refine Zp <| Z6 <| ztn <| ZG <| zwi 60 ((i : Int) + 1) <| wv 17 (vi ((i : Int) + 1)) <| ZL ?_
  have n101 := Z2 b80
  have n102 := Z2 b94
  have e1 : ((i : Int) - 1).toNat = i - 1 := by omega
  have ho : Z19 F L ix D i = true := by unfold Z19; rw [← e1]; simp only [b27, b30, n101, n102, bls]
  refine Za ?_ _ ⟨(i + 1), rfl, om, (fun j hj => by rcases Nat.lt_or_ge j i with h | h; exact hall j h; rw [show j = i by omega]; exact ho), H93, rfl⟩ om
  exact zs
 refine zxb <| ztn <| zsl <| wv 6 (.bool true) <| znt <| Zk <| ze1 (.bool true) ?_
 have hn0 : i = D.length := by omega
 subst hn0
 exact ⟨by simp only [Z0j, Z1r hall, n21, bls], H24.upd 0 rfl [] ne⟩
theorem Z4z (w : World) (y : Hash) (oi : Int) (cl seq : Int) (x : Hash) (pa : Option Addr) (pc : Nat) (p : List UInt8) (hp : ListAt Zx 1 w (.slice pa p.length pc) p) (hcl : cl ≤ 9223372036854775807) (hsq : seq ≤ 9223372036854775807) (hlp : p.length ≤ 1000) :
  Calls Tryz.prog 69 #[(.agg ⟨(hc y)⟩), (.agg ⟨([i6 cl, i6 seq] : LV)⟩), (.agg ⟨(([i6 oi, (.slice pa p.length pc)] : LV) ++ hc x)⟩)] w fun e w' => e = .returned (.bool (decide (y = Z0E (ofT cl seq x p)))) ∧ Upd [] w w' := by
 have H := Sat.start0 w
 refine Zg Tryz.func69 rfl 15 rfl kn ?_
 refine zsl <| zy <| zdb (hc y) H fun b2 w3 H4 => ?_
 refine kk <| zy <| zdb (Z1x cl seq) H4 fun b6 w7 H8 => ?_
 refine kk <| zy <| zdb (([(vi oi), (.slice pa p.length pc)] : LV) ++ hc x) H8 fun b10 w11 H12 => ?_
 refine kk <| wv 6 (.bool false) <| znt <| Z9 <| zqs H12 ?_
 refine qv 7 (.agg ⟨(hc y)⟩) ?_ (hr := fun _ H' => (zlN (vs := (hc y)) (H'.at 1 rfl)))
 refine qv 8 (.agg ⟨(Z1x cl seq)⟩) ?_ (hr := fun _ H' => (zlN (vs := (Z1x cl seq)) (H'.at 2 rfl)))
 refine qv 9 (pt b10 2) <| qv 10 (.agg ⟨(hc x)⟩) ?_ (hr := fun _ H' => (zlN (vs := (hc x)) (H'.at 3 rfl)))
 refine qv 11 (pt b10 1) <| qv 12 (.slice pa p.length pc) ?_ (hr := fun _ H' => (zl1 (H'.cell 3 rfl kr)))
 refine Z0r (Zc rfl) (d := 13) (v := (.agg ⟨(hc (Z0E (ofT cl seq x p)))⟩)) rfl (fun _ _ => by kernel_rfl) (fun w' H' => (Z8e w' cl seq x pa pc p (ListAt.now H' 0 rfl hp) hcl hsq hlp).mono fun _ _ h => ⟨h.1, H'.keepU h.2⟩) ?_
 refine qv 14 (.bool (decide (y = (Z0E (ofT cl seq x p))))) ?_ (hr := fun _ H' => (Zan y (Z0E (ofT cl seq x p)) rfl rfl))
 refine qv 6 (.bool (decide (y = (Z0E (ofT cl seq x p))))) <| Z01 fun w13 H14 => ?_
 refine ztn <| Zk <| ze1 (.bool (decide (y = (Z0E (ofT cl seq x p))))) ?_
 exact ⟨rfl, H14.upd 0 rfl [] ne⟩
theorem Z8U (w : World) (F c E last : Int) (vg : Value) (na : Option Addr) (nc : Nat) (OO : List Z1g) (hOO : ListAt Z39 36 w (.slice na OO.length nc) OO) (hlOO : OO.length ≤ 1000) (M : List (Int × Z3x)) (hSM : SpM OO M) (ix : Int) :
  Calls Tryz.prog 74 #[(.agg ⟨([i6 F, i6 c, i6 E, u6 last, (vg), (.slice na OO.length nc)] : LV)⟩), i6 ix] w fun e w' => e = .returned (.tuple #[(.agg ⟨(([(i6 (((Zv M ix).getD Z1t).cl)), (i6 (((Zv M ix).getD Z1t).sq))] : LV) ++ hc ((Zv M ix).getD Z1t).h ++ ([(u6 (((Zv M ix).getD Z1t).t))] : LV))⟩), .bool (Zv M ix).isSome]) ∧ Upd [] w w' := by
 have H := Sat.start0 w
 refine Zg Tryz.func74 rfl 29 rfl kn ?_
 refine zsl <| zy <| zdb (Z4P F c E last vg na OO.length nc) H fun b2 w3 H4 => ?_
 refine kk <| zy <| zda (Z6s) H4 fun b6 w7 H8 => ?_
 refine kk <| wv 5 (.bool false) <| znt <| Z9 <| zsl <| wv 7 (pt b2 5) <| zw1 8 (.slice na OO.length nc) (H8.cell 1 rfl rfl) <| wv 9 (vi OO.length) <| wv 10 (vi 0) <| znt ?_
 refine Zh <| ZB ([5, 6] ++ List.range' 10 18) (fun F_ W_ m_ => ∃ (i : Nat), F_ 10 = (vi i) ∧ (i ≤ OO.length) ∧ (∀ j, j < i → decide ((OO.getD j Z0i).i = ix) = false) ∧ Sat w [zR w, Z0 b2 36 (Z4P F c E last vg na OO.length nc), Z0 b6 63 (Z6s)] W_ ∧ m_ = OO.length - i) _ ⟨0, (show ((vi 0) : Value) = _ by first | rfl | go_num), (Nat.zero_le _), (fun _ h => absurd h (Nat.not_lt_zero _)), H8, rfl⟩ ?_
 rintro g9 w10 _ ⟨i, v12, hi, hall, H11, rfl⟩
 refine Zn 10 _ v12 ?_
 refine zsl <| wv 11 (.bool (decide ((i : Int) < OO.length))) <| znt <| Z9 ?_
 refine zid (fun b14 g15 => ?_) fun b14 g31 => ?_
 ·refine Zp <| ztn <| Z9 <| Zh <| zsl <| wv 12 (vi i) <| wv 6 (vi i) <| Z1a <| wv 13 (pt b2 5) <| zw1 14 (.slice na OO.length nc) (H11.cell 1 rfl rfl) ?_
  refine wv 15 (vi i) ?_
  obtain ⟨g17, o18, c19, e20, R21⟩ := SliceOf.atD hOO Z0i (show i < OO.length by omega)
  refine wv 16 (.pointer (some ⟨g17, o18 + ((i : Int)).toNat * 36, none⟩)) ?_ (hr := Z8 (E := 102) kr kr kn rfl e20 rfl om om)
  refine wv 17 (.pointer (some ⟨g17, o18 + ((i : Int)).toNat * 36, none⟩)) <| zw1 18 (vi ((OO.getD i Z0i).i)) (H11.cellR 0 rfl (Z0f R21 0 kr (show o18 + ((i : Int)).toNat * 36 = o18 + i * 36 + 0 by omega)) (fun h => h)) <| wv 19 (vi ix) <| wv 20 (.bool (decide (((OO.getD i Z0i).i) = ix))) <| znt ?_
  refine zid (fun b22 g23 => ?_) fun b22 g28 => ?_
  ·refine zsl <| wv 21 (pt b2 5) <| zw1 22 (.slice na OO.length nc) (H11.cell 1 rfl rfl) <| wv 23 (vi i) <| wv 24 (.pointer (some ⟨g17, o18 + ((i : Int)).toNat * 36, none⟩)) ?_ (hr := Z8 (E := 102) kr kr kn rfl e20 rfl om om)
   refine wv 25 (.pointer (some ⟨g17, o18 + ((i : Int)).toNat * 36 + 1, none⟩)) <| wv 26 (.agg ⟨(Zat (OO.getD i Z0i))⟩) ?_ (hr := ZX (vs := (Zat (OO.getD i Z0i))) rfl kr kr kn (H11.runR 0 rfl (Z08 R21 1 kr (show o18 + ((i : Int)).toNat * 36 + 1 = o18 + i * 36 + 1 by omega)) (fun h => h)))
   refine zy <| Z1S (Zat (OO.getD i Z0i)) H11 2 fun w26 H27 => ?_
   refine kk <| wv 5 (.bool true) <| znt <| Zk <| Zf <| Z4 <| Zs <| Zf <| Z4 <| Z8l rfl (Z02 (vs := (Zat (OO.getD i Z0i))) rfl kr kr kn (H27.at 2 rfl) kr) (Z0S (v := (.bool true)) rfl) ?_
   have hm : Zv M ix = some (spE (OO.getD i Z0i)) := by rw [hSM ix, Z6S (L := OO) (d := Z0i) (i := i) (p := fun s : Z1g => decide (s.i = ix)) hall om b22]; rfl
   exact ⟨by rw [hm]; rfl, H27.upd 0 rfl [] ne⟩
  refine Zp <| Z6 <| ztn <| ZG <| zwi 27 ((i : Int) + 1) <| wv 10 (vi ((i : Int) + 1)) <| ZL <| Za ?_ _ ⟨(i + 1), rfl, om, (fun j hj => by rcases Nat.lt_or_ge j i with h | h; exact hall j h; rw [show j = i by omega]; exact b22), H11, rfl⟩ om
  exact zs
 refine zxb <| ztn <| zsl <| wv 28 (.agg ⟨(Z6s)⟩) <| zy <| Z1S (Z6s) H11 2 fun w34 H35 => ?_
 refine kk <| wv 5 (.bool false) <| znt <| Zk <| Z8l rfl (Z02 (vs := (Z6s)) rfl kr kr kn (H35.at 2 rfl) kr) (Z0S (v := (.bool false)) rfl) ?_
 have hm : Zv M ix = none := by rw [hSM ix, Z3D (L := OO) (d := Z0i) (p := fun s : Z1g => decide (s.i = ix)) (fun j hj => hall j om)]; rfl
 exact ⟨by rw [hm]; rfl, H35.upd 0 rfl [] ne⟩
theorem Z9o (w : World) (F c E last : Int) (vg : Value) (na : Option Addr) (nc : Nat) (OO : List Z1g) (hOO : ListAt Z39 36 w (.slice na OO.length nc) OO) (hlOO : OO.length ≤ 1000) (M : List (Int × Z3x)) (hSM : SpM OO M) (hF : 1 ≤ F ∧ F ≤ 1099511627776) (hM : OpenOk M) (r : Nat) (ra : Option Addr) (rc : Nat) (L : List Signed) (hb : (Z0 r 165 [.slice ra L.length rc]).ok w) (hr : (Zo 181 2 (.slice ra L.length rc) L.length (L.flatMap Z47)).ok w) (hn : L.Nodup) (hL : L.length ≤ 1000000) (xe xt : Int) (pa : Option Addr) (pc : Nat) (PS : List PrR) (hPS : ListAt Z0T 6 w (.slice pa PS.length pc) PS) (hlP : PS.length ≤ 1000000) (hPk : ∀ i, i < PS.length → PrW w (PS.getD i pr0)) (oa : Option Addr) (oc : Nat) (OS : List OpR) (hOS : ListAt Z0J 34 w (.slice oa OS.length oc) OS) (hlO : OS.length ≤ 1000000) (hoL : ∀ i, i < OS.length → ListAt Zx 1 w (.slice (OS.getD i op0).pa (OS.getD i op0).P.length (OS.getD i op0).pc) (OS.getD i op0).P) (hlo : ∀ i, i < OS.length → (OS.getD i op0).P.length ≤ 1000) (ta : Option Addr) (tc : Nat) (TS : List TbR) (hTS : ListAt Z16 2 w (.slice ta TS.length tc) TS) (hlT : TS.length ≤ 1000000) (hTk : ∀ i, i < TS.length → TbW w (TS.getD i tb0)) :
  Calls Tryz.prog 24 #[zp r, (.agg ⟨([i6 F, i6 c, i6 E, u6 last, (vg), (.slice na OO.length nc)] : LV)⟩), (.agg ⟨([i6 xe, u6 xt, (.slice pa PS.length pc), (.slice oa OS.length oc), (.slice ta TS.length tc)] : LV)⟩)] w fun e w' => e = .returned (.bool (Z0v F c E last L M xe xt PS OS TS)) ∧ Upd [] w w' := by
 have H := Sat.start0 w
 refine Zg Tryz.func24 rfl 217 rfl kn ?_
 refine zsl <| zy <| zdb (Z4P F c E last vg na OO.length nc) H fun b2 w3 H4 => ?_
 refine kk <| zy <| zdb (Z7k xe xt pa PS.length pc oa OS.length oc ta TS.length tc) H4 fun b6 w7 H8 => ?_
 refine kk <| wv 6 (.bool false) <| znt <| Z9 <| Z9 <| zqs H8 ?_
 refine qv 18 (pt b6 0) <| qv 19 (vi xe) ?_ (hr := fun _ H' => (zl1 (H'.cell 2 rfl rfl)))
 refine qv 20 (pt b2 2) <| qv 21 (vi E) ?_ (hr := fun _ H' => (zl1 (H'.cell 1 rfl rfl)))
 refine qv 22 (.bool (!(decide (xe = E)))) <| qv 23 (.bool (!(decide (xe = E)))) ?_
 refine (ZY (!(decide (xe = E)))).elim (fun b9 => ?_) (fun b9 => ?_)
 ·have g10 := Z7 b9
  have g11 := of_decide_eq_false g10
  refine Z09 23 (.bool true) (congrArg Value.bool b9) ?_
  iterate 5 refine qn 5 23 false ?_
  refine qv 29 (.bool true) <| qv 30 (.bool true) ?_
  iterate 3 refine qn 12 30 false ?_
  refine qv 34 (.bool true) <| qv 35 (.bool true) ?_
  iterate 7 refine qn 17 35 false ?_
  refine qv 43 (.bool true) <| qv 44 (.bool true) ?_
  iterate 4 refine qn 26 44 false ?_
  refine qv 49 (.bool true) <| qv 50 (.bool true) ?_
  iterate 4 refine qn 32 50 false ?_
  refine qv 55 (.bool true) <| Z01 fun w14 H15 => ?_
  refine ztn <| Z06 rfl ?_
  refine zsl <| wv 6 (.bool false) <| znt <| Zk <| Z4 <| ze1 (.bool false) ?_
  have n16 := Z7 b9
  exact ⟨by simp only [Z0v, Z0M, n16, bls], H15.upd 0 rfl [] ne⟩
 have g17 := Z2 b9
 refine Z09 23 (.bool false) (congrArg Value.bool b9) ?_
 refine qy 5 23 false 24 (pt b6 1) <| qy 5 23 false 25 (vu xt) ?_ (hr := fun _ H' => (zl1 (H'.cell 2 rfl rfl)))
 refine qy 5 23 false 26 (pt b2 3) <| qy 5 23 false 27 (vu last) ?_ (hr := fun _ H' => (zl1 (H'.cell 1 rfl rfl)))
 refine qy 5 23 false 28 (.bool (decide (xt ≤ last))) <| qv 29 (.bool (decide (xt ≤ last))) <| qv 30 (.bool (decide (xt ≤ last))) ?_
 refine ziq 30 (fun b21 g22 => ?_) fun b21 g27 => ?_
 ·iterate 3 refine qn 12 30 false ?_
  refine qv 34 (.bool true) <| qv 35 (.bool true) ?_
  iterate 7 refine qn 17 35 false ?_
  refine qv 43 (.bool true) <| qv 44 (.bool true) ?_
  iterate 4 refine qn 26 44 false ?_
  refine qv 49 (.bool true) <| qv 50 (.bool true) ?_
  iterate 4 refine qn 32 50 false ?_
  refine qv 55 (.bool true) <| Z01 fun w24 H25 => ?_
  refine ztn <| Z06 rfl ?_
  refine zsl <| wv 6 (.bool false) <| znt <| Zk <| Z4 <| ze1 (.bool false) ?_
  have n26 := Z2 b9
  exact ⟨by simp only [Z0v, Z0M, n26, b21, bls], H25.upd 0 rfl [] ne⟩
 refine qy 12 30 false 31 (pt b6 1) <| qy 12 30 false 32 (vu xt) ?_ (hr := fun _ H' => (zl1 (H'.cell 2 rfl rfl)))
 refine qy 12 30 false 33 (.bool (decide (xt = 18446744073709551615))) <| qv 34 (.bool (decide (xt = 18446744073709551615))) <| qv 35 (.bool (decide (xt = 18446744073709551615))) ?_
 refine ziq 35 (fun b29 g28 => ?_) fun b29 g35 => ?_
 ·iterate 7 refine qn 17 35 false ?_
  refine qv 43 (.bool true) <| qv 44 (.bool true) ?_
  iterate 4 refine qn 26 44 false ?_
  refine qv 49 (.bool true) <| qv 50 (.bool true) ?_
  iterate 4 refine qn 32 50 false ?_
  refine qv 55 (.bool true) <| Z01 fun w32 H33 => ?_
  refine ztn <| Z06 rfl ?_
  refine zsl <| wv 6 (.bool false) <| znt <| Zk <| Z4 <| ze1 (.bool false) ?_
  have n34 := Z2 b9
  exact ⟨by simp only [Z0v, Z0M, n34, b21, b29, bls], H33.upd 0 rfl [] ne⟩
 refine qy 17 35 false 36 (pt b6 2) <| qy 17 35 false 37 (.slice pa PS.length pc) ?_ (hr := fun _ H' => (zl1 (H'.cell 2 rfl rfl)))
 refine Z4a (Z05 17 35 false rfl kr rfl kr) (d := 38) (v := (vi PS.length)) rfl (fun _ H' => kr) ?_
 refine qy 17 35 false 39 (pt b2 0) <| qy 17 35 false 40 (.agg ⟨(Z1x F c)⟩) ?_ (hr := fun _ H' => (zlN (vs := (Z1x F c)) (H'.at 1 rfl)))
 refine Z0r (Z05 17 35 false rfl kr rfl kr) (d := 41) (v := (vi (2 * F + 1))) rfl (fun _ _ => by kernel_rfl) (fun w' H' => (Z5R w' F c om).mono fun _ _ h => ⟨h.1, H'.keepU h.2⟩) ?_
 refine qy 17 35 false 42 (.bool (!(decide ((PS.length : Int) = (2 * F + 1))))) <| qv 43 (.bool (!(decide ((PS.length : Int) = (2 * F + 1))))) <| qv 44 (.bool (!(decide ((PS.length : Int) = (2 * F + 1))))) ?_
 refine (ZY (!(decide ((PS.length : Int) = (2 * F + 1))))).elim (fun b37 => ?_) (fun b37 => ?_)
 ·have g38 := Z7 b37
  have g39 := of_decide_eq_false g38
  refine Z09 44 (.bool true) (congrArg Value.bool b37) ?_
  iterate 4 refine qn 26 44 false ?_
  refine qv 49 (.bool true) <| qv 50 (.bool true) ?_
  iterate 4 refine qn 32 50 false ?_
  refine qv 55 (.bool true) <| Z01 fun w42 H43 => ?_
  refine ztn <| Z06 rfl ?_
  refine zsl <| wv 6 (.bool false) <| znt <| Zk <| Z4 <| ze1 (.bool false) ?_
  have n44 := Z2 b9
  have n45 := Z7 b37
  exact ⟨by simp only [Z0v, Z0M, n44, b21, b29, n45, bls], H43.upd 0 rfl [] ne⟩
 have g46 := Z2 b37
 have g47 := of_decide_eq_true g46
 refine Z09 44 (.bool false) (congrArg Value.bool b37) ?_
 refine qy 26 44 false 45 (pt b6 3) <| qy 26 44 false 46 (.slice oa OS.length oc) ?_ (hr := fun _ H' => (zl1 (H'.cell 2 rfl rfl)))
 refine Z4a (Z05 26 44 false rfl kr rfl kr) (d := 47) (v := (vi OS.length)) rfl (fun _ H' => kr) ?_
 refine qy 26 44 false 48 (.bool (decide ((OS.length : Int) > 64))) <| qv 49 (.bool (decide ((OS.length : Int) > 64))) <| qv 50 (.bool (decide ((OS.length : Int) > 64))) ?_
 refine ziq 50 (fun b50 g51 => ?_) fun b50 g57 => ?_
 ·iterate 4 refine qn 32 50 false ?_
  refine qv 55 (.bool true) <| Z01 fun w53 H54 => ?_
  refine ztn <| Z06 rfl ?_
  refine zsl <| wv 6 (.bool false) <| znt <| Zk <| Z4 <| ze1 (.bool false) ?_
  have n55 := Z2 b9
  have n56 := Z2 b37
  exact ⟨by simp only [Z0v, Z0M, n55, b21, b29, n56, b50, bls], H54.upd 0 rfl [] ne⟩
 refine qy 32 50 false 51 (pt b6 4) <| qy 32 50 false 52 (.slice ta TS.length tc) ?_ (hr := fun _ H' => (zl1 (H'.cell 2 rfl rfl)))
 refine Z4a (Z05 32 50 false rfl kr rfl kr) (d := 53) (v := (vi TS.length)) rfl (fun _ H' => kr) ?_
 refine qy 32 50 false 54 (.bool (decide ((TS.length : Int) > 64))) <| qv 55 (.bool (decide ((TS.length : Int) > 64))) <| Z01 fun w59 H60 => ?_
 apply ztn
 refine zid (fun b61 g62 => ?_) fun b61 g66 => ?_
 ·refine zsl <| wv 6 (.bool false) <| znt <| Zk <| Z4 <| ze1 (.bool false) ?_
  have n64 := Z2 b9
  have n65 := Z2 b37
  exact ⟨by simp only [Z0v, Z0M, n64, b21, b29, n65, b50, b61, bls], H60.upd 0 rfl [] ne⟩
 refine Zp <| ztn <| Z9 <| zsl <| wv 56 (pt b6 2) <| zw1 57 (.slice pa PS.length pc) (H60.cell 2 rfl rfl) <| wv 58 (vi PS.length) <| wv 59 (vi 0) <| znt <| Zh ?_
 have n68 := Z2 b9
 have n69 := Z2 b37
 refine ZB ([6, 7, 8] ++ List.range' 59 45) (fun F_ W_ m_ => ∃ (i : Nat), F_ 59 = (vi i) ∧ (i ≤ PS.length) ∧ (∀ j, j < i → Z3N F c L xe xt PS j = true) ∧ Sat w [zR w, Z0 b2 36 (Z4P F c E last vg na OO.length nc), Z0 b6 47 (Z7k xe xt pa PS.length pc oa OS.length oc ta TS.length tc)] W_ ∧ m_ = PS.length - i) _ ⟨0, (show ((vi 0) : Value) = _ by first | rfl | go_num), (Nat.zero_le _), (fun _ h => absurd h (Nat.not_lt_zero _)), H60, rfl⟩ ?_
 rintro g70 w71 _ ⟨i, v73, hi, halli, H72, rfl⟩
 refine Zn 59 _ v73 ?_
 refine zsl <| wv 60 (.bool (decide ((i : Int) < PS.length))) <| znt <| Z9 ?_
 refine zid (fun b75 g76 => ?_) fun b75 g186 => ?_
 ·refine Zp <| ztn <| Z9 <| Zh <| zsl <| wv 61 (vi i) <| wv 7 (vi i) <| Z1a <| wv 62 (pt b6 2) <| zw1 63 (.slice pa PS.length pc) (H72.cell 2 rfl rfl) ?_
  refine wv 64 (vi i) ?_
  obtain ⟨g78, o79, c80, e81, R82⟩ := SliceOf.atD hPS pr0 (show i < PS.length by omega)
  refine wv 65 (.pointer (some ⟨g78, o79 + ((i : Int)).toNat * 6, none⟩)) ?_ (hr := Z8 (E := 71) kr kr kn rfl e81 rfl om om)
  refine wv 66 (.agg ⟨(Z6X (PS.getD i pr0) ((PS.getD i pr0).C.length))⟩) ?_ (hr := ZX (vs := (Z6X (PS.getD i pr0) ((PS.getD i pr0).C.length))) rfl kr kr kn (H72.runR 0 rfl (Z08 R82 0 kr (show o79 + ((i : Int)).toNat * 6 = o79 + i * 6 + 0 by omega)) (fun h => h)))
  refine zy <| zda (kVaR_7) H72 fun b84 w85 H86 => ?_
  refine kk <| zy <| Z1S (Z6X (PS.getD i pr0) ((PS.getD i pr0).C.length)) H86 3 fun w88 H89 => ?_
  refine kk <| znt <| Z9 <| zqs H89 ?_
  refine qv 67 (vi i) <| qv 68 (.bool (decide ((i : Int) > 0))) <| qv 69 (.bool (decide ((i : Int) > 0))) ?_
  refine ziq 69 (fun b91 g92 => ?_) fun b91 g145 => ?_
  ·refine qy 2 69 true 70 (pt b84 0) <| qy 2 69 true 71 (vi ((PS.getD i pr0).r)) ?_ (hr := fun _ H' => (zl1 (H'.cell 3 rfl rfl)))
   refine qy 2 69 true 72 (pt b6 2) <| qy 2 69 true 73 (.slice pa PS.length pc) ?_ (hr := fun _ H' => (zl1 (H'.cell 2 rfl rfl)))
   refine qy 2 69 true 74 (vi i) <| qy 2 69 true 75 (vi ((i : Int) - 1)) ?_ (hr := fun _ H' => (Z0A (z := (i : Int) - 1) kr (IntWalk.i64_in _ om)))
   obtain ⟨g94, o95, c96, e97, R98⟩ := SliceOf.atD hPS pr0 (show ((i : Int) - 1).toNat < PS.length by omega)
   refine qy 2 69 true 76 (.pointer (some ⟨g94, o95 + ((i : Int) - 1).toNat * 6, none⟩)) ?_ (hr := fun _ H' => (Z8 (E := 71) kr kr kn rfl e97 rfl om om))
   refine qy 2 69 true 77 (.pointer (some ⟨g94, o95 + ((i : Int) - 1).toNat * 6, none⟩)) <| qy 2 69 true 78 (vi ((PS.getD ((i : Int) - 1).toNat pr0).r)) ?_ (hr := fun _ H' => (zl1 (H'.cellR 0 rfl (Z0f R98 0 kr (show o95 + ((i : Int) - 1).toNat * 6 = o95 + ((i : Int) - 1).toNat * 6 + 0 by omega)) (fun h => h))))
   refine qy 2 69 true 79 (.bool (decide (((PS.getD i pr0).r) ≤ ((PS.getD ((i : Int) - 1).toNat pr0).r)))) <| qv 80 (.bool (decide (((PS.getD i pr0).r) ≤ ((PS.getD ((i : Int) - 1).toNat pr0).r)))) <| qv 81 (.bool (decide (((PS.getD i pr0).r) ≤ ((PS.getD ((i : Int) - 1).toNat pr0).r)))) ?_
   refine ziq 81 (fun b99 g100 => ?_) fun b99 g104 => ?_
   ·iterate 5 refine qn 14 81 false ?_
    refine qv 87 (.bool true) <| qv 88 (.bool true) ?_
    iterate 5 refine qn 21 88 false ?_
    refine qv 94 (.bool true) <| qv 95 (.bool true) ?_
    iterate 6 refine qn 28 95 false ?_
    refine qv 102 (.bool true) <| Z01 fun w102 H103 => ?_
    refine ztn <| Z06 rfl ?_
    refine zsl <| wv 6 (.bool false) <| znt <| Zk <| Zf <| Z4 <| Zs <| Zf <| Z4 <| ze1 (.bool false) ?_
    have e1 : ((i : Int) - 1).toNat = i - 1 := by omega
    have ho : Z3N F c L xe xt PS i = false := by unfold Z3N; rw [← e1]; simp only [b75, b91, b99, bls]
    exact ⟨by simp only [Z0v, Z0M, ZP (show i < PS.length by omega) ho, Bool.false_and, Bool.and_false], H103.upd 0 rfl [] ne⟩
   refine qy 14 81 false 82 (pt b84 1) <| qy 14 81 false 83 (vi ((PS.getD i pr0).e)) ?_ (hr := fun _ H' => (zl1 (H'.cell 3 rfl rfl)))
   refine qy 14 81 false 84 (pt b6 0) <| qy 14 81 false 85 (vi xe) ?_ (hr := fun _ H' => (zl1 (H'.cell 2 rfl rfl)))
   refine qy 14 81 false 86 (.bool (!(decide (((PS.getD i pr0).e) = xe)))) <| qv 87 (.bool (!(decide (((PS.getD i pr0).e) = xe)))) <| qv 88 (.bool (!(decide (((PS.getD i pr0).e) = xe)))) ?_
   refine (ZY (!(decide (((PS.getD i pr0).e) = xe)))).elim (fun b106 => ?_) (fun b106 => ?_)
   ·have g107 := Z7 b106
    have g108 := of_decide_eq_false g107
    refine Z09 88 (.bool true) (congrArg Value.bool b106) ?_
    iterate 5 refine qn 21 88 false ?_
    refine qv 94 (.bool true) <| qv 95 (.bool true) ?_
    iterate 6 refine qn 28 95 false ?_
    refine qv 102 (.bool true) <| Z01 fun w111 H112 => ?_
    refine ztn <| Z06 rfl ?_
    refine zsl <| wv 6 (.bool false) <| znt <| Zk <| Zf <| Z4 <| Zs <| Zf <| Z4 <| ze1 (.bool false) ?_
    have n113 := Z7 b106
    have e1 : ((i : Int) - 1).toNat = i - 1 := by omega
    have ho : Z3N F c L xe xt PS i = false := by unfold Z3N; rw [← e1]; simp only [b75, b91, b99, n113, bls]
    exact ⟨by simp only [Z0v, Z0M, ZP (show i < PS.length by omega) ho, Bool.false_and, Bool.and_false], H112.upd 0 rfl [] ne⟩
   have g114 := Z2 b106
   have g115 := of_decide_eq_true g114
   refine Z09 88 (.bool false) (congrArg Value.bool b106) ?_
   refine qy 21 88 false 89 (pt b84 2) <| qy 21 88 false 90 (vu ((PS.getD i pr0).f)) ?_ (hr := fun _ H' => (zl1 (H'.cell 3 rfl rfl)))
   refine qy 21 88 false 91 (pt b6 1) <| qy 21 88 false 92 (vu xt) ?_ (hr := fun _ H' => (zl1 (H'.cell 2 rfl rfl)))
   refine qy 21 88 false 93 (.bool (!(decide (((PS.getD i pr0).f) = xt)))) <| qv 94 (.bool (!(decide (((PS.getD i pr0).f) = xt)))) <| qv 95 (.bool (!(decide (((PS.getD i pr0).f) = xt)))) ?_
   refine (ZY (!(decide (((PS.getD i pr0).f) = xt)))).elim (fun b118 => ?_) (fun b118 => ?_)
   ·have g119 := Z7 b118
    have g120 := of_decide_eq_false g119
    refine Z09 95 (.bool true) (congrArg Value.bool b118) ?_
    iterate 6 refine qn 28 95 false ?_
    refine qv 102 (.bool true) <| Z01 fun w123 H124 => ?_
    refine ztn <| Z06 rfl ?_
    refine zsl <| wv 6 (.bool false) <| znt <| Zk <| Zf <| Z4 <| Zs <| Zf <| Z4 <| ze1 (.bool false) ?_
    have n125 := Z2 b106
    have n126 := Z7 b118
    have e1 : ((i : Int) - 1).toNat = i - 1 := by omega
    have ho : Z3N F c L xe xt PS i = false := by unfold Z3N; rw [← e1]; simp only [b75, b91, b99, n125, n126, bls]
    exact ⟨by simp only [Z0v, Z0M, ZP (show i < PS.length by omega) ho, Bool.false_and, Bool.and_false], H124.upd 0 rfl [] ne⟩
   have g127 := Z2 b118
   have g128 := of_decide_eq_true g127
   refine Z09 95 (.bool false) (congrArg Value.bool b118) ?_
   refine qy 28 95 false 96 (pt b2 0) <| qy 28 95 false 97 (.agg ⟨(Z1x F c)⟩) ?_ (hr := fun _ H' => (zlN (vs := (Z1x F c)) (H'.at 1 rfl)))
   refine qy 28 95 false 98 (pt r 0) <| qy 28 95 false 99 (.agg ⟨(Z6X (PS.getD i pr0) ((PS.getD i pr0).C.length))⟩) ?_ (hr := fun _ H' => (zlN (vs := (Z6X (PS.getD i pr0) ((PS.getD i pr0).C.length))) (H'.at 3 rfl)))
   refine Z0r (Z05 28 95 false rfl kr rfl kr) (d := 100) (v := (.bool (Z0H F c L (PS.getD i pr0)))) rfl (fun _ _ => by kernel_rfl) (fun w' H' => (Z6O w' F c om r ra rc L (H'.roCk 0 rfl hb (fun _ _ h => h)) (H'.roCk 0 rfl hr (fun _ _ h => h)) hn hL (PS.getD i pr0) ((hPk i om).now H' 0 rfl).C ((hPk i om).now H' 0 rfl).B ((hPk i om).now H' 0 rfl).l12 ((hPk i om).now H' 0 rfl).len ((hPk i om).now H' 0 rfl).lim).mono fun _ _ h => ⟨h.1, H'.keepU h.2⟩) ?_
   refine qy 28 95 false 101 (.bool (!(Z0H F c L (PS.getD i pr0)))) <| qv 102 (.bool (!(Z0H F c L (PS.getD i pr0)))) <| Z01 fun w131 H132 => ?_
   apply ztn
   refine (ZY (!(Z0H F c L (PS.getD i pr0)))).elim (fun b133 => ?_) (fun b133 => ?_)
   ·have g134 := Z7 b133
    refine Z48 _ b133 ?_
    refine zsl <| wv 6 (.bool false) <| znt <| Zk <| Zf <| Z4 <| Zs <| Zf <| Z4 <| ze1 (.bool false) ?_
    have n136 := Z2 b106
    have n137 := Z2 b118
    have n138 := Z7 b133
    have e1 : ((i : Int) - 1).toNat = i - 1 := by omega
    have ho : Z3N F c L xe xt PS i = false := by unfold Z3N; rw [← e1]; simp only [b75, b91, b99, n136, n137, n138, bls]
    exact ⟨by simp only [Z0v, Z0M, ZP (show i < PS.length by omega) ho, Bool.false_and, Bool.and_false], H132.upd 0 rfl [] ne⟩
   have g139 := Z2 b133
   refine Z3L _ b133 ?_
   refine Zp <| Z6 <| ztn <| ZG <| zwi 103 ((i : Int) + 1) <| wv 59 (vi ((i : Int) + 1)) <| ZL ?_
   have n141 := Z2 b106
   have n142 := Z2 b118
   have n143 := Z2 b133
   have e1 : ((i : Int) - 1).toNat = i - 1 := by omega
   have ho : Z3N F c L xe xt PS i = true := by unfold Z3N; rw [← e1]; simp only [b75, b91, b99, n141, n142, n143, bls]
   have H144 := H132.pk [0, 1, 2]
   refine Za ?_ _ ⟨(i + 1), rfl, om, (fun j hj => by rcases Nat.lt_or_ge j i with h | h; exact halli j h; rw [show j = i by omega]; exact ho), H144, rfl⟩ om
   exact zs
  iterate 10 refine qn 2 69 true ?_
  refine qv 80 (.bool false) <| qv 81 (.bool false) <| qy 14 81 false 82 (pt b84 1) <| qy 14 81 false 83 (vi ((PS.getD i pr0).e)) ?_ (hr := fun _ H' => (zl1 (H'.cell 3 rfl rfl)))
  refine qy 14 81 false 84 (pt b6 0) <| qy 14 81 false 85 (vi xe) ?_ (hr := fun _ H' => (zl1 (H'.cell 2 rfl rfl)))
  refine qy 14 81 false 86 (.bool (!(decide (((PS.getD i pr0).e) = xe)))) <| qv 87 (.bool (!(decide (((PS.getD i pr0).e) = xe)))) <| qv 88 (.bool (!(decide (((PS.getD i pr0).e) = xe)))) ?_
  refine (ZY (!(decide (((PS.getD i pr0).e) = xe)))).elim (fun b147 => ?_) (fun b147 => ?_)
  ·have g148 := Z7 b147
   have g149 := of_decide_eq_false g148
   refine Z09 88 (.bool true) (congrArg Value.bool b147) ?_
   iterate 5 refine qn 21 88 false ?_
   refine qv 94 (.bool true) <| qv 95 (.bool true) ?_
   iterate 6 refine qn 28 95 false ?_
   refine qv 102 (.bool true) <| Z01 fun w152 H153 => ?_
   refine ztn <| Z06 rfl ?_
   refine zsl <| wv 6 (.bool false) <| znt <| Zk <| Zf <| Z4 <| Zs <| Zf <| Z4 <| ze1 (.bool false) ?_
   have n154 := Z7 b147
   have e1 : ((i : Int) - 1).toNat = i - 1 := by omega
   have ho : Z3N F c L xe xt PS i = false := by unfold Z3N; rw [← e1]; simp only [b75, b91, n154, bls]
   exact ⟨by simp only [Z0v, Z0M, ZP (show i < PS.length by omega) ho, Bool.false_and, Bool.and_false], H153.upd 0 rfl [] ne⟩
  have g155 := Z2 b147
  have g156 := of_decide_eq_true g155
  refine Z09 88 (.bool false) (congrArg Value.bool b147) ?_
  refine qy 21 88 false 89 (pt b84 2) <| qy 21 88 false 90 (vu ((PS.getD i pr0).f)) ?_ (hr := fun _ H' => (zl1 (H'.cell 3 rfl rfl)))
  refine qy 21 88 false 91 (pt b6 1) <| qy 21 88 false 92 (vu xt) ?_ (hr := fun _ H' => (zl1 (H'.cell 2 rfl rfl)))
  refine qy 21 88 false 93 (.bool (!(decide (((PS.getD i pr0).f) = xt)))) <| qv 94 (.bool (!(decide (((PS.getD i pr0).f) = xt)))) <| qv 95 (.bool (!(decide (((PS.getD i pr0).f) = xt)))) ?_
  refine (ZY (!(decide (((PS.getD i pr0).f) = xt)))).elim (fun b159 => ?_) (fun b159 => ?_)
  ·have g160 := Z7 b159
   have g161 := of_decide_eq_false g160
   refine Z09 95 (.bool true) (congrArg Value.bool b159) ?_
   iterate 6 refine qn 28 95 false ?_
   refine qv 102 (.bool true) <| Z01 fun w164 H165 => ?_
   refine ztn <| Z06 rfl ?_
   refine zsl <| wv 6 (.bool false) <| znt <| Zk <| Zf <| Z4 <| Zs <| Zf <| Z4 <| ze1 (.bool false) ?_
   have n166 := Z2 b147
   have n167 := Z7 b159
   have e1 : ((i : Int) - 1).toNat = i - 1 := by omega
   have ho : Z3N F c L xe xt PS i = false := by unfold Z3N; rw [← e1]; simp only [b75, b91, n166, n167, bls]
   exact ⟨by simp only [Z0v, Z0M, ZP (show i < PS.length by omega) ho, Bool.false_and, Bool.and_false], H165.upd 0 rfl [] ne⟩
  have g168 := Z2 b159
  have g169 := of_decide_eq_true g168
  refine Z09 95 (.bool false) (congrArg Value.bool b159) ?_
  refine qy 28 95 false 96 (pt b2 0) <| qy 28 95 false 97 (.agg ⟨(Z1x F c)⟩) ?_ (hr := fun _ H' => (zlN (vs := (Z1x F c)) (H'.at 1 rfl)))
  refine qy 28 95 false 98 (pt r 0) <| qy 28 95 false 99 (.agg ⟨(Z6X (PS.getD i pr0) ((PS.getD i pr0).C.length))⟩) ?_ (hr := fun _ H' => (zlN (vs := (Z6X (PS.getD i pr0) ((PS.getD i pr0).C.length))) (H'.at 3 rfl)))
  refine Z0r (Z05 28 95 false rfl kr rfl kr) (d := 100) (v := (.bool (Z0H F c L (PS.getD i pr0)))) rfl (fun _ _ => by kernel_rfl) (fun w' H' => (Z6O w' F c om r ra rc L (H'.roCk 0 rfl hb (fun _ _ h => h)) (H'.roCk 0 rfl hr (fun _ _ h => h)) hn hL (PS.getD i pr0) ((hPk i om).now H' 0 rfl).C ((hPk i om).now H' 0 rfl).B ((hPk i om).now H' 0 rfl).l12 ((hPk i om).now H' 0 rfl).len ((hPk i om).now H' 0 rfl).lim).mono fun _ _ h => ⟨h.1, H'.keepU h.2⟩) ?_
  refine qy 28 95 false 101 (.bool (!(Z0H F c L (PS.getD i pr0)))) <| qv 102 (.bool (!(Z0H F c L (PS.getD i pr0)))) <| Z01 fun w172 H173 => ?_
  apply ztn
  refine (ZY (!(Z0H F c L (PS.getD i pr0)))).elim (fun b174 => ?_) (fun b174 => ?_)
  ·have g175 := Z7 b174
   refine Z48 _ b174 ?_
   refine zsl <| wv 6 (.bool false) <| znt <| Zk <| Zf <| Z4 <| Zs <| Zf <| Z4 <| ze1 (.bool false) ?_
   have n177 := Z2 b147
   have n178 := Z2 b159
   have n179 := Z7 b174
   have e1 : ((i : Int) - 1).toNat = i - 1 := by omega
   have ho : Z3N F c L xe xt PS i = false := by unfold Z3N; rw [← e1]; simp only [b75, b91, n177, n178, n179, bls]
   exact ⟨by simp only [Z0v, Z0M, ZP (show i < PS.length by omega) ho, Bool.false_and, Bool.and_false], H173.upd 0 rfl [] ne⟩
  have g180 := Z2 b174
  refine Z3L _ b174 ?_
  refine Zp <| Z6 <| ztn <| ZG <| zwi 103 ((i : Int) + 1) <| wv 59 (vi ((i : Int) + 1)) <| ZL ?_
  have n182 := Z2 b147
  have n183 := Z2 b159
  have n184 := Z2 b174
  have e1 : ((i : Int) - 1).toNat = i - 1 := by omega
  have ho : Z3N F c L xe xt PS i = true := by unfold Z3N; rw [← e1]; simp only [b75, b91, n182, n183, n184, bls]
  have H185 := H173.pk [0, 1, 2]
  refine Za ?_ _ ⟨(i + 1), rfl, om, (fun j hj => by rcases Nat.lt_or_ge j i with h | h; exact halli j h; rw [show j = i by omega]; exact ho), H185, rfl⟩ om
  exact zs
 refine zxb <| ztn <| Z9 <| zsl <| wv 104 (pt b6 3) <| zw1 105 (.slice oa OS.length oc) (H72.cell 2 rfl rfl) <| wv 106 (vi OS.length) <| wv 107 (vi 0) <| znt <| Zh ?_
 have hzi : i = PS.length := by omega
 have hAi : (List.range PS.length).all (Z3N F c L xe xt PS) = true := Z1r (by rw [← hzi]; exact halli)
 refine ZB ([6, 9, 10, 11, 12] ++ List.range' 107 49) (fun F_ W_ m_ => ∃ (k : Nat), F_ 107 = (vi k) ∧ (k ≤ OS.length) ∧ (∀ j, j < k → Z4K M OS j = true) ∧ Sat w [zR w, Z0 b2 36 (Z4P F c E last vg na OO.length nc), Z0 b6 47 (Z7k xe xt pa PS.length pc oa OS.length oc ta TS.length tc)] W_ ∧ m_ = OS.length - k) _ ⟨0, (show ((vi 0) : Value) = _ by first | rfl | go_num), (Nat.zero_le _), (fun _ h => absurd h (Nat.not_lt_zero _)), H72, rfl⟩ ?_
 rintro g188 w189 _ ⟨k, v191, hk, hallk, H190, rfl⟩
 refine Zn 107 _ v191 ?_
 refine zsl <| wv 108 (.bool (decide ((k : Int) < OS.length))) <| znt <| Z9 ?_
 refine zid (fun b193 g194 => ?_) fun b193 g302 => ?_
 ·refine Zp <| ztn <| Z9 <| Zh <| zsl <| wv 109 (vi k) <| wv 9 (vi k) <| Z1a <| wv 110 (pt b6 3) <| zw1 111 (.slice oa OS.length oc) (H190.cell 2 rfl rfl) ?_
  refine wv 112 (vi k) ?_
  obtain ⟨g196, o197, c198, e199, R200⟩ := SliceOf.atD hOS op0 (show k < OS.length by omega)
  refine wv 113 (.pointer (some ⟨g196, o197 + ((k : Int)).toNat * 34, none⟩)) ?_ (hr := Z8 (E := 86) kr kr kn rfl e199 rfl om om)
  refine wv 114 (.agg ⟨(Z6F (OS.getD k op0) ((OS.getD k op0).P.length))⟩) ?_ (hr := ZX (vs := (Z6F (OS.getD k op0) ((OS.getD k op0).P.length))) rfl kr kr kn (H190.runR 0 rfl (Z08 R200 0 kr (show o197 + ((k : Int)).toNat * 34 = o197 + k * 34 + 0 by omega)) (fun h => h)))
  refine zy <| zda (([(vi 0), (.slice none 0 0)] : LV) ++ hc Zz) H190 fun b202 w203 H204 => ?_
  refine kk <| zy <| Z1S (Z6F (OS.getD k op0) ((OS.getD k op0).P.length)) H204 3 fun w206 H207 => ?_
  refine kk <| Z1a <| zwN 116 (Z4P F c E last vg na OO.length nc) (H207.at 1 rfl) <| wv 117 (pt b202 0) <| zw1 118 (vi ((OS.getD k op0).i)) (H207.cell 3 rfl kr) <| zy <| zdq 119 (Z8U w206 F c E last vg na nc OO (ListAt.now H207 0 rfl hOO) hlOO M hSM ((OS.getD k op0).i)) H207 fun w210 H211 => ?_
  refine kk <| wv 115 (.tuple #[(.agg ⟨(Z5N ((Zv M ((OS.getD k op0).i)).getD Z1t))⟩), (.bool ((Zv M ((OS.getD k op0).i)).isSome))]) <| wv 120 (.agg ⟨(Z5N ((Zv M ((OS.getD k op0).i)).getD Z1t))⟩) <| wv 121 (.bool ((Zv M ((OS.getD k op0).i)).isSome)) <| zy <| zda (Z6s) H211 fun b214 w215 H216 => ?_
  refine kk <| zy <| Z1S (Z5N ((Zv M ((OS.getD k op0).i)).getD Z1t)) H216 4 fun w218 H219 => ?_
  refine kk <| wv 12 (.bool ((Zv M ((OS.getD k op0).i)).isSome)) <| znt <| Z9 <| zqs H219 ?_
  refine qv 122 (vi k) <| qv 123 (.bool (decide ((k : Int) > 0))) <| qv 124 (.bool (decide ((k : Int) > 0))) ?_
  refine ziq 124 (fun b221 g222 => ?_) fun b221 g268 => ?_
  ·refine qy 2 124 true 125 (pt b202 0) <| qy 2 124 true 126 (vi ((OS.getD k op0).i)) ?_ (hr := fun _ H' => (zl1 (H'.cell 3 rfl kr)))
   refine qy 2 124 true 127 (pt b6 3) <| qy 2 124 true 128 (.slice oa OS.length oc) ?_ (hr := fun _ H' => (zl1 (H'.cell 2 rfl rfl)))
   refine qy 2 124 true 129 (vi k) <| qy 2 124 true 130 (vi ((k : Int) - 1)) ?_ (hr := fun _ H' => (Z0A (z := (k : Int) - 1) kr (IntWalk.i64_in _ om)))
   obtain ⟨g224, o225, c226, e227, R228⟩ := SliceOf.atD hOS op0 (show ((k : Int) - 1).toNat < OS.length by omega)
   refine qy 2 124 true 131 (.pointer (some ⟨g224, o225 + ((k : Int) - 1).toNat * 34, none⟩)) ?_ (hr := fun _ H' => (Z8 (E := 86) kr kr kn rfl e227 rfl om om))
   refine qy 2 124 true 132 (.pointer (some ⟨g224, o225 + ((k : Int) - 1).toNat * 34, none⟩)) <| qy 2 124 true 133 (vi ((OS.getD ((k : Int) - 1).toNat op0).i)) ?_ (hr := fun _ H' => (zl1 (H'.cellR 0 rfl (Z0f R228 0 kr (show o225 + ((k : Int) - 1).toNat * 34 = o225 + ((k : Int) - 1).toNat * 34 + 0 by omega)) (fun h => h))))
   refine qy 2 124 true 134 (.bool (decide (((OS.getD k op0).i) ≤ ((OS.getD ((k : Int) - 1).toNat op0).i)))) <| qv 135 (.bool (decide (((OS.getD k op0).i) ≤ ((OS.getD ((k : Int) - 1).toNat op0).i)))) <| qv 136 (.bool (decide (((OS.getD k op0).i) ≤ ((OS.getD ((k : Int) - 1).toNat op0).i)))) ?_
   refine ziq 136 (fun b229 g230 => ?_) fun b229 g234 => ?_
   ·iterate 2 refine qn 14 136 false ?_
    refine qv 139 (.bool true) <| qv 140 (.bool true) ?_
    iterate 4 refine qn 18 140 false ?_
    refine qv 145 (.bool true) <| qv 146 (.bool true) ?_
    iterate 7 refine qn 24 146 false ?_
    refine qv 154 (.bool true) <| Z01 fun w232 H233 => ?_
    refine ztn <| Z06 rfl ?_
    refine zsl <| wv 6 (.bool false) <| znt <| Zk <| Zf <| Z4 <| Zs <| Zf <| Z4 <| ze1 (.bool false) ?_
    have e1 : ((k : Int) - 1).toNat = k - 1 := by omega
    have ho : Z4K M OS k = false := by unfold Z4K Z28; rw [← e1]; simp only [b193, b221, b229, bls]
    exact ⟨by simp only [Z0v, Z0M, ZP (show k < OS.length by omega) ho, Bool.false_and, Bool.and_false], H233.upd 0 rfl [] ne⟩
   refine qy 14 136 false 137 (.bool ((Zv M ((OS.getD k op0).i)).isSome)) <| qy 14 136 false 138 (.bool (!((Zv M ((OS.getD k op0).i)).isSome))) <| qv 139 (.bool (!((Zv M ((OS.getD k op0).i)).isSome))) <| qv 140 (.bool (!((Zv M ((OS.getD k op0).i)).isSome))) ?_
   refine (ZY (!((Zv M ((OS.getD k op0).i)).isSome))).elim (fun b236 => ?_) (fun b236 => ?_)
   ·have g237 := Z7 b236
    refine Z09 140 (.bool true) (congrArg Value.bool b236) ?_
    iterate 4 refine qn 18 140 false ?_
    refine qv 145 (.bool true) <| qv 146 (.bool true) ?_
    iterate 7 refine qn 24 146 false ?_
    refine qv 154 (.bool true) <| Z01 fun w239 H240 => ?_
    refine ztn <| Z06 rfl ?_
    refine zsl <| wv 6 (.bool false) <| znt <| Zk <| Zf <| Z4 <| Zs <| Zf <| Z4 <| ze1 (.bool false) ?_
    have n241 := Z7 b236
    have e1 : ((k : Int) - 1).toNat = k - 1 := by omega
    have ho : Z4K M OS k = false := by unfold Z4K Z28; rw [← e1]; simp only [b193, b221, b229, n241, bls]
    exact ⟨by simp only [Z0v, Z0M, ZP (show k < OS.length by omega) ho, Bool.false_and, Bool.and_false], H240.upd 0 rfl [] ne⟩
   have g242 := Z2 b236
   refine Z09 140 (.bool false) (congrArg Value.bool b236) ?_
   refine qy 18 140 false 141 (pt b202 1) <| qy 18 140 false 142 (.slice (OS.getD k op0).pa (OS.getD k op0).P.length (OS.getD k op0).pc) ?_ (hr := fun _ H' => (zl1 (H'.cell 3 rfl kr)))
   refine Z4a (Z05 18 140 false rfl kr rfl kr) (d := 143) (v := (vi ((OS.getD k op0).P.length : Int))) rfl (fun _ H' => kr) ?_
   refine qy 18 140 false 144 (.bool (decide (((OS.getD k op0).P.length : Int) > 256))) <| qv 145 (.bool (decide (((OS.getD k op0).P.length : Int) > 256))) <| qv 146 (.bool (decide (((OS.getD k op0).P.length : Int) > 256))) ?_
   refine ziq 146 (fun b244 g245 => ?_) fun b244 g250 => ?_
   ·iterate 7 refine qn 24 146 false ?_
    refine qv 154 (.bool true) <| Z01 fun w247 H248 => ?_
    refine ztn <| Z06 rfl ?_
    refine zsl <| wv 6 (.bool false) <| znt <| Zk <| Zf <| Z4 <| Zs <| Zf <| Z4 <| ze1 (.bool false) ?_
    have n249 := Z2 b236
    have hlp : decide (((OS.getD k op0).P.length : Int) ≤ 256) = false := by have q := b244; exact decide_eq_false (by have q2 := of_decide_eq_true q; omega)
    have e1 : ((k : Int) - 1).toNat = k - 1 := by omega
    have ho : Z4K M OS k = false := by unfold Z4K Z28; rw [← e1]; simp only [b193, b221, b229, n249, b244, hlp, bls]
    exact ⟨by simp only [Z0v, Z0M, ZP (show k < OS.length by omega) ho, Bool.false_and, Bool.and_false], H248.upd 0 rfl [] ne⟩
   refine qy 24 146 false 147 (pt b214 2) <| qy 24 146 false 148 (.agg ⟨(hc ((Zv M ((OS.getD k op0).i)).getD Z1t).h)⟩) ?_ (hr := fun _ H' => (zlN (vs := (hc ((Zv M ((OS.getD k op0).i)).getD Z1t).h)) (H'.at 4 rfl)))
   refine qy 24 146 false 149 (pt b214 0) <| qy 24 146 false 150 (.agg ⟨(Z7W ((Zv M ((OS.getD k op0).i)).getD Z1t))⟩) ?_ (hr := fun _ H' => (zlN (vs := (Z7W ((Zv M ((OS.getD k op0).i)).getD Z1t))) (H'.at 4 rfl)))
   refine qy 24 146 false 151 (.agg ⟨(Z6F (OS.getD k op0) ((OS.getD k op0).P.length))⟩) ?_ (hr := fun _ H' => (zlN (vs := (Z6F (OS.getD k op0) ((OS.getD k op0).P.length))) (H'.at 3 rfl)))
   refine Z0r (Z05 24 146 false rfl kr rfl kr) (d := 152) (v := (.bool (decide (((Zv M (OS.getD k op0).i).getD Z1t).h = Z0E (ofT ((Zv M (OS.getD k op0).i).getD Z1t).cl ((Zv M (OS.getD k op0).i).getD Z1t).sq (OS.getD k op0).h (OS.getD k op0).P))))) rfl (fun _ _ => by kernel_rfl) (fun w' H' => (Z4z w' ((Zv M (OS.getD k op0).i).getD Z1t).h (OS.getD k op0).i ((Zv M (OS.getD k op0).i).getD Z1t).cl ((Zv M (OS.getD k op0).i).getD Z1t).sq (OS.getD k op0).h (OS.getD k op0).pa (OS.getD k op0).pc (OS.getD k op0).P (ListAt.now H' 0 rfl (hoL k om)) (by have q := hM (OS.getD k op0).i; omega) (by have q := hM (OS.getD k op0).i; omega) (hlo k om)).mono fun _ _ h => ⟨h.1, H'.keepU h.2⟩) ?_
   refine qy 24 146 false 153 (.bool (!(decide (((Zv M (OS.getD k op0).i).getD Z1t).h = Z0E (ofT ((Zv M (OS.getD k op0).i).getD Z1t).cl ((Zv M (OS.getD k op0).i).getD Z1t).sq (OS.getD k op0).h (OS.getD k op0).P))))) <| qv 154 (.bool (!(decide (((Zv M (OS.getD k op0).i).getD Z1t).h = Z0E (ofT ((Zv M (OS.getD k op0).i).getD Z1t).cl ((Zv M (OS.getD k op0).i).getD Z1t).sq (OS.getD k op0).h (OS.getD k op0).P))))) <| Z01 fun w252 H253 => ?_
   apply ztn
   refine (ZY (!(decide (((Zv M (OS.getD k op0).i).getD Z1t).h = Z0E (ofT ((Zv M (OS.getD k op0).i).getD Z1t).cl ((Zv M (OS.getD k op0).i).getD Z1t).sq (OS.getD k op0).h (OS.getD k op0).P))))).elim (fun b254 => ?_) (fun b254 => ?_)
   ·have g255 := Z7 b254
    have g256 := of_decide_eq_false g255
    refine Z48 _ b254 ?_
    refine zsl <| wv 6 (.bool false) <| znt <| Zk <| Zf <| Z4 <| Zs <| Zf <| Z4 <| ze1 (.bool false) ?_
    have n259 := Z2 b236
    have n260 := Z7 b254
    have hlp : decide (((OS.getD k op0).P.length : Int) ≤ 256) = true := by have q := b244; exact decide_eq_true (by have q2 := of_decide_eq_false q; omega)
    have e1 : ((k : Int) - 1).toNat = k - 1 := by omega
    have ho : Z4K M OS k = false := by unfold Z4K Z28; rw [← e1]; simp only [b193, b221, b229, n259, b244, n260, hlp, bls]
    exact ⟨by simp only [Z0v, Z0M, ZP (show k < OS.length by omega) ho, Bool.false_and, Bool.and_false], H253.upd 0 rfl [] ne⟩
   have g261 := Z2 b254
   have g262 := of_decide_eq_true g261
   refine Z3L _ b254 ?_
   refine Zp <| Z6 <| ztn <| ZG <| zwi 155 ((k : Int) + 1) <| wv 107 (vi ((k : Int) + 1)) <| ZL ?_
   have n265 := Z2 b236
   have n266 := Z2 b254
   have hlp : decide (((OS.getD k op0).P.length : Int) ≤ 256) = true := by have q := b244; exact decide_eq_true (by have q2 := of_decide_eq_false q; omega)
   have e1 : ((k : Int) - 1).toNat = k - 1 := by omega
   have ho : Z4K M OS k = true := by unfold Z4K Z28; rw [← e1]; simp only [b193, b221, b229, n265, b244, n266, hlp, bls]
   have H267 := H253.pk [0, 1, 2]
   refine Za ?_ _ ⟨(k + 1), rfl, om, (fun j hj => by rcases Nat.lt_or_ge j k with h | h; exact hallk j h; rw [show j = k by omega]; exact ho), H267, rfl⟩ om
   exact zs
  iterate 10 refine qn 2 124 true ?_
  refine qv 135 (.bool false) <| qv 136 (.bool false) <| qy 14 136 false 137 (.bool ((Zv M ((OS.getD k op0).i)).isSome)) <| qy 14 136 false 138 (.bool (!((Zv M ((OS.getD k op0).i)).isSome))) <| qv 139 (.bool (!((Zv M ((OS.getD k op0).i)).isSome))) <| qv 140 (.bool (!((Zv M ((OS.getD k op0).i)).isSome))) ?_
  refine (ZY (!((Zv M ((OS.getD k op0).i)).isSome))).elim (fun b270 => ?_) (fun b270 => ?_)
  ·have g271 := Z7 b270
   refine Z09 140 (.bool true) (congrArg Value.bool b270) ?_
   iterate 4 refine qn 18 140 false ?_
   refine qv 145 (.bool true) <| qv 146 (.bool true) ?_
   iterate 7 refine qn 24 146 false ?_
   refine qv 154 (.bool true) <| Z01 fun w273 H274 => ?_
   refine ztn <| Z06 rfl ?_
   refine zsl <| wv 6 (.bool false) <| znt <| Zk <| Zf <| Z4 <| Zs <| Zf <| Z4 <| ze1 (.bool false) ?_
   have n275 := Z7 b270
   have e1 : ((k : Int) - 1).toNat = k - 1 := by omega
   have ho : Z4K M OS k = false := by unfold Z4K Z28; rw [← e1]; simp only [b193, b221, n275, bls]
   exact ⟨by simp only [Z0v, Z0M, ZP (show k < OS.length by omega) ho, Bool.false_and, Bool.and_false], H274.upd 0 rfl [] ne⟩
  have g276 := Z2 b270
  refine Z09 140 (.bool false) (congrArg Value.bool b270) ?_
  refine qy 18 140 false 141 (pt b202 1) <| qy 18 140 false 142 (.slice (OS.getD k op0).pa (OS.getD k op0).P.length (OS.getD k op0).pc) ?_ (hr := fun _ H' => (zl1 (H'.cell 3 rfl kr)))
  refine Z4a (Z05 18 140 false rfl kr rfl kr) (d := 143) (v := (vi ((OS.getD k op0).P.length : Int))) rfl (fun _ H' => kr) ?_
  refine qy 18 140 false 144 (.bool (decide (((OS.getD k op0).P.length : Int) > 256))) <| qv 145 (.bool (decide (((OS.getD k op0).P.length : Int) > 256))) <| qv 146 (.bool (decide (((OS.getD k op0).P.length : Int) > 256))) ?_
  refine ziq 146 (fun b278 g279 => ?_) fun b278 g284 => ?_
  ·iterate 7 refine qn 24 146 false ?_
   refine qv 154 (.bool true) <| Z01 fun w281 H282 => ?_
   refine ztn <| Z06 rfl ?_
   refine zsl <| wv 6 (.bool false) <| znt <| Zk <| Zf <| Z4 <| Zs <| Zf <| Z4 <| ze1 (.bool false) ?_
   have n283 := Z2 b270
   have hlp : decide (((OS.getD k op0).P.length : Int) ≤ 256) = false := by have q := b278; exact decide_eq_false (by have q2 := of_decide_eq_true q; omega)
   have e1 : ((k : Int) - 1).toNat = k - 1 := by omega
   have ho : Z4K M OS k = false := by unfold Z4K Z28; rw [← e1]; simp only [b193, b221, n283, b278, hlp, bls]
   exact ⟨by simp only [Z0v, Z0M, ZP (show k < OS.length by omega) ho, Bool.false_and, Bool.and_false], H282.upd 0 rfl [] ne⟩
  refine qy 24 146 false 147 (pt b214 2) <| qy 24 146 false 148 (.agg ⟨(hc ((Zv M ((OS.getD k op0).i)).getD Z1t).h)⟩) ?_ (hr := fun _ H' => (zlN (vs := (hc ((Zv M ((OS.getD k op0).i)).getD Z1t).h)) (H'.at 4 rfl)))
  refine qy 24 146 false 149 (pt b214 0) <| qy 24 146 false 150 (.agg ⟨(Z7W ((Zv M ((OS.getD k op0).i)).getD Z1t))⟩) ?_ (hr := fun _ H' => (zlN (vs := (Z7W ((Zv M ((OS.getD k op0).i)).getD Z1t))) (H'.at 4 rfl)))
  refine qy 24 146 false 151 (.agg ⟨(Z6F (OS.getD k op0) ((OS.getD k op0).P.length))⟩) ?_ (hr := fun _ H' => (zlN (vs := (Z6F (OS.getD k op0) ((OS.getD k op0).P.length))) (H'.at 3 rfl)))
  refine Z0r (Z05 24 146 false rfl kr rfl kr) (d := 152) (v := (.bool (decide (((Zv M (OS.getD k op0).i).getD Z1t).h = Z0E (ofT ((Zv M (OS.getD k op0).i).getD Z1t).cl ((Zv M (OS.getD k op0).i).getD Z1t).sq (OS.getD k op0).h (OS.getD k op0).P))))) rfl (fun _ _ => by kernel_rfl) (fun w' H' => (Z4z w' ((Zv M (OS.getD k op0).i).getD Z1t).h (OS.getD k op0).i ((Zv M (OS.getD k op0).i).getD Z1t).cl ((Zv M (OS.getD k op0).i).getD Z1t).sq (OS.getD k op0).h (OS.getD k op0).pa (OS.getD k op0).pc (OS.getD k op0).P (ListAt.now H' 0 rfl (hoL k om)) (by have q := hM (OS.getD k op0).i; omega) (by have q := hM (OS.getD k op0).i; omega) (hlo k om)).mono fun _ _ h => ⟨h.1, H'.keepU h.2⟩) ?_
  refine qy 24 146 false 153 (.bool (!(decide (((Zv M (OS.getD k op0).i).getD Z1t).h = Z0E (ofT ((Zv M (OS.getD k op0).i).getD Z1t).cl ((Zv M (OS.getD k op0).i).getD Z1t).sq (OS.getD k op0).h (OS.getD k op0).P))))) <| qv 154 (.bool (!(decide (((Zv M (OS.getD k op0).i).getD Z1t).h = Z0E (ofT ((Zv M (OS.getD k op0).i).getD Z1t).cl ((Zv M (OS.getD k op0).i).getD Z1t).sq (OS.getD k op0).h (OS.getD k op0).P))))) <| Z01 fun w286 H287 => ?_
  apply ztn
  refine (ZY (!(decide (((Zv M (OS.getD k op0).i).getD Z1t).h = Z0E (ofT ((Zv M (OS.getD k op0).i).getD Z1t).cl ((Zv M (OS.getD k op0).i).getD Z1t).sq (OS.getD k op0).h (OS.getD k op0).P))))).elim (fun b288 => ?_) (fun b288 => ?_)
  ·have g289 := Z7 b288
   have g290 := of_decide_eq_false g289
   refine Z48 _ b288 ?_
   refine zsl <| wv 6 (.bool false) <| znt <| Zk <| Zf <| Z4 <| Zs <| Zf <| Z4 <| ze1 (.bool false) ?_
   have n293 := Z2 b270
   have n294 := Z7 b288
   have hlp : decide (((OS.getD k op0).P.length : Int) ≤ 256) = true := by have q := b278; exact decide_eq_true (by have q2 := of_decide_eq_false q; omega)
   have e1 : ((k : Int) - 1).toNat = k - 1 := by omega
   have ho : Z4K M OS k = false := by unfold Z4K Z28; rw [← e1]; simp only [b193, b221, n293, b278, n294, hlp, bls]
   exact ⟨by simp only [Z0v, Z0M, ZP (show k < OS.length by omega) ho, Bool.false_and, Bool.and_false], H287.upd 0 rfl [] ne⟩
  have g295 := Z2 b288
  have g296 := of_decide_eq_true g295
  refine Z3L _ b288 ?_
  refine Zp <| Z6 <| ztn <| ZG <| zwi 155 ((k : Int) + 1) <| wv 107 (vi ((k : Int) + 1)) <| ZL ?_
  have n299 := Z2 b270
  have n300 := Z2 b288
  have hlp : decide (((OS.getD k op0).P.length : Int) ≤ 256) = true := by have q := b278; exact decide_eq_true (by have q2 := of_decide_eq_false q; omega)
  have e1 : ((k : Int) - 1).toNat = k - 1 := by omega
  have ho : Z4K M OS k = true := by unfold Z4K Z28; rw [← e1]; simp only [b193, b221, n299, b278, n300, hlp, bls]
  have H301 := H287.pk [0, 1, 2]
  refine Za ?_ _ ⟨(k + 1), rfl, om, (fun j hj => by rcases Nat.lt_or_ge j k with h | h; exact hallk j h; rw [show j = k by omega]; exact ho), H301, rfl⟩ om
  exact zs
 refine zxb <| ztn <| Z9 <| zsl <| wv 156 (pt b6 4) <| zw1 157 (.slice ta TS.length tc) (H190.cell 2 rfl rfl) <| wv 158 (vi TS.length) <| wv 159 (vi 0) <| znt <| Zh ?_
 have hzk : k = OS.length := by omega
 have hAk : (List.range OS.length).all (Z4K M OS) = true := Z1r (by rw [← hzk]; exact hallk)
 refine ZB ([6, 13, 14, 15, 16, 17] ++ List.range' 159 58) (fun F_ W_ m_ => ∃ (q : Nat), F_ 159 = (vi q) ∧ (q ≤ TS.length) ∧ (∀ j, j < q → Z3M F L M OS TS j = true) ∧ Sat w [zR w, Z0 b2 36 (Z4P F c E last vg na OO.length nc), Z0 b6 47 (Z7k xe xt pa PS.length pc oa OS.length oc ta TS.length tc)] W_ ∧ m_ = TS.length - q) _ ⟨0, (show ((vi 0) : Value) = _ by first | rfl | go_num), (Nat.zero_le _), (fun _ h => absurd h (Nat.not_lt_zero _)), H190, rfl⟩ ?_
 rintro g304 w305 _ ⟨q, v307, hq, hallq, H306, rfl⟩
 refine Zn 159 _ v307 ?_
 refine zsl <| wv 160 (.bool (decide ((q : Int) < TS.length))) <| znt <| Z9 ?_
 refine zid (fun b309 g310 => ?_) fun b309 g442 => ?_
 ·refine Zp <| ztn <| Z9 <| Zh <| zsl <| wv 161 (vi q) <| wv 13 (vi q) <| Z1a <| wv 162 (pt b6 4) <| zw1 163 (.slice ta TS.length tc) (H306.cell 2 rfl rfl) ?_
  refine wv 164 (vi q) ?_
  obtain ⟨g312, o313, c314, e315, R316⟩ := SliceOf.atD hTS tb0 (show q < TS.length by omega)
  refine wv 165 (.pointer (some ⟨g312, o313 + ((q : Int)).toNat * 2, none⟩)) ?_ (hr := Z8 (E := 89) kr kr kn rfl e315 rfl om om)
  refine wv 166 (.agg ⟨(Z3Q (TS.getD q tb0) ((TS.getD q tb0).D.length))⟩) ?_ (hr := ZX (vs := (Z3Q (TS.getD q tb0) ((TS.getD q tb0).D.length))) rfl kr kr kn (H306.runR 0 rfl (Z08 R316 0 kr (show o313 + ((q : Int)).toNat * 2 = o313 + q * 2 + 0 by omega)) (fun h => h)))
  refine zy <| zda ([(vi 0), (.slice none 0 0)] : LV) H306 fun b318 w319 H320 => ?_
  refine kk <| zy <| Z1S (Z3Q (TS.getD q tb0) ((TS.getD q tb0).D.length)) H320 3 fun w322 H323 => ?_
  refine kk <| Z1a <| zwN 168 (Z4P F c E last vg na OO.length nc) (H323.at 1 rfl) <| wv 169 (pt b318 0) <| zw1 170 (vi ((TS.getD q tb0).i)) (H323.cell 3 rfl rfl) <| zy <| zdq 171 (Z8U w322 F c E last vg na nc OO (ListAt.now H323 0 rfl hOO) hlOO M hSM ((TS.getD q tb0).i)) H323 fun w326 H327 => ?_
  refine kk <| wv 167 (.tuple #[(.agg ⟨(Z5N ((Zv M ((TS.getD q tb0).i)).getD Z1t))⟩), (.bool ((Zv M ((TS.getD q tb0).i)).isSome))]) <| wv 172 (.agg ⟨(Z5N ((Zv M ((TS.getD q tb0).i)).getD Z1t))⟩) <| wv 173 (.bool ((Zv M ((TS.getD q tb0).i)).isSome)) <| zy <| zda (Z6s) H327 fun b330 w331 H332 => ?_
  refine kk <| zy <| Z1S (Z5N ((Zv M ((TS.getD q tb0).i)).getD Z1t)) H332 4 fun w334 H335 => ?_
  refine kk <| wv 16 (.bool ((Zv M ((TS.getD q tb0).i)).isSome)) <| znt <| Z9 <| Z9 <| zqs H335 ?_
  refine qv 174 (vi q) <| qv 175 (.bool (decide ((q : Int) > 0))) <| qv 176 (.bool (decide ((q : Int) > 0))) ?_
  refine ziq 176 (fun b337 g338 => ?_) fun b337 g396 => ?_
  ·refine qy 2 176 true 177 (pt b318 0) <| qy 2 176 true 178 (vi ((TS.getD q tb0).i)) ?_ (hr := fun _ H' => (zl1 (H'.cell 3 rfl rfl)))
   refine qy 2 176 true 179 (pt b6 4) <| qy 2 176 true 180 (.slice ta TS.length tc) ?_ (hr := fun _ H' => (zl1 (H'.cell 2 rfl rfl)))
   refine qy 2 176 true 181 (vi q) <| qy 2 176 true 182 (vi ((q : Int) - 1)) ?_ (hr := fun _ H' => (Z0A (z := (q : Int) - 1) kr (IntWalk.i64_in _ om)))
   obtain ⟨g340, o341, c342, e343, R344⟩ := SliceOf.atD hTS tb0 (show ((q : Int) - 1).toNat < TS.length by omega)
   refine qy 2 176 true 183 (.pointer (some ⟨g340, o341 + ((q : Int) - 1).toNat * 2, none⟩)) ?_ (hr := fun _ H' => (Z8 (E := 89) kr kr kn rfl e343 rfl om om))
   refine qy 2 176 true 184 (.pointer (some ⟨g340, o341 + ((q : Int) - 1).toNat * 2, none⟩)) <| qy 2 176 true 185 (vi ((TS.getD ((q : Int) - 1).toNat tb0).i)) ?_ (hr := fun _ H' => (zl1 (H'.cellR 0 rfl (Z0f R344 0 kr (show o341 + ((q : Int) - 1).toNat * 2 = o341 + ((q : Int) - 1).toNat * 2 + 0 by omega)) (fun h => h))))
   refine qy 2 176 true 186 (.bool (decide (((TS.getD q tb0).i) ≤ ((TS.getD ((q : Int) - 1).toNat tb0).i)))) <| qv 187 (.bool (decide (((TS.getD q tb0).i) ≤ ((TS.getD ((q : Int) - 1).toNat tb0).i)))) <| qv 188 (.bool (decide (((TS.getD q tb0).i) ≤ ((TS.getD ((q : Int) - 1).toNat tb0).i)))) ?_
   refine ziq 188 (fun b345 g346 => ?_) fun b345 g350 => ?_
   ·iterate 2 refine qn 14 188 false ?_
    refine qv 191 (.bool true) <| qv 192 (.bool true) ?_
    iterate 6 refine qn 18 192 false ?_
    refine qv 199 (.bool true) <| Z01 fun w348 H349 => ?_
    refine ztn <| Z06 rfl ?_
    refine zsl <| wv 6 (.bool false) <| znt <| Zk <| Z4 <| Zf <| Z4 <| Zs <| Zf <| Z4 ?_
    refine ze1 (.bool false) ?_
    have e1 : ((q : Int) - 1).toNat = q - 1 := by omega
    have ho : Z3M F L M OS TS q = false := by unfold Z3M; rw [← e1]; simp only [b309, b337, b345, bls]
    exact ⟨by simp only [Z0v, Z0M, ZP (show q < TS.length by omega) ho, Bool.and_false], H349.upd 0 rfl [] ne⟩
   refine qy 14 188 false 189 (.bool ((Zv M ((TS.getD q tb0).i)).isSome)) <| qy 14 188 false 190 (.bool (!((Zv M ((TS.getD q tb0).i)).isSome))) <| qv 191 (.bool (!((Zv M ((TS.getD q tb0).i)).isSome))) <| qv 192 (.bool (!((Zv M ((TS.getD q tb0).i)).isSome))) ?_
   refine (ZY (!((Zv M ((TS.getD q tb0).i)).isSome))).elim (fun b352 => ?_) (fun b352 => ?_)
   ·have g353 := Z7 b352
    refine Z09 192 (.bool true) (congrArg Value.bool b352) ?_
    iterate 6 refine qn 18 192 false ?_
    refine qv 199 (.bool true) <| Z01 fun w355 H356 => ?_
    refine ztn <| Z06 rfl ?_
    refine zsl <| wv 6 (.bool false) <| znt <| Zk <| Z4 <| Zf <| Z4 <| Zs <| Zf <| Z4 ?_
    refine ze1 (.bool false) ?_
    have n357 := Z7 b352
    have e1 : ((q : Int) - 1).toNat = q - 1 := by omega
    have ho : Z3M F L M OS TS q = false := by unfold Z3M; rw [← e1]; simp only [b309, b337, b345, n357, bls]
    exact ⟨by simp only [Z0v, Z0M, ZP (show q < TS.length by omega) ho, Bool.and_false], H356.upd 0 rfl [] ne⟩
   have g358 := Z2 b352
   refine Z09 192 (.bool false) (congrArg Value.bool b352) ?_
   refine qy 18 192 false 193 (pt b2 0) <| qy 18 192 false 194 (.agg ⟨(Z1x F c)⟩) ?_ (hr := fun _ H' => (zlN (vs := (Z1x F c)) (H'.at 1 rfl)))
   refine qy 18 192 false 195 (pt r 0) <| qy 18 192 false 196 (.agg ⟨(Z3Q (TS.getD q tb0) ((TS.getD q tb0).D.length))⟩) ?_ (hr := fun _ H' => (zlN (vs := (Z3Q (TS.getD q tb0) ((TS.getD q tb0).D.length))) (H'.at 3 rfl)))
   refine Z0r (Z05 18 192 false rfl kr rfl kr) (d := 197) (v := (.bool (Z0j F L (TS.getD q tb0).i (TS.getD q tb0).D))) rfl (fun _ _ => by kernel_rfl) (fun w' H' => (Z3A w' F c hF r ra rc L (H'.roCk 0 rfl hb (fun _ _ h => h)) (H'.roCk 0 rfl hr (fun _ _ h => h)) hn hL (TS.getD q tb0).i (TS.getD q tb0).da (TS.getD q tb0).dc (TS.getD q tb0).D (ListAt.now H' 0 rfl (hTk q om).D) (hTk q om).ok (hTk q om).len).mono fun _ _ h => ⟨h.1, H'.keepU h.2⟩) ?_
   refine qy 18 192 false 198 (.bool (!(Z0j F L (TS.getD q tb0).i (TS.getD q tb0).D))) <| qv 199 (.bool (!(Z0j F L (TS.getD q tb0).i (TS.getD q tb0).D))) <| Z01 fun w360 H361 => ?_
   apply ztn
   refine (ZY (!(Z0j F L (TS.getD q tb0).i (TS.getD q tb0).D))).elim (fun b362 => ?_) (fun b362 => ?_)
   ·have g363 := Z7 b362
    refine Z48 _ b362 ?_
    refine zsl <| wv 6 (.bool false) <| znt <| Zk <| Z4 <| Zf <| Z4 <| Zs <| Zf <| Z4 ?_
    refine ze1 (.bool false) ?_
    have n365 := Z2 b352
    have n366 := Z7 b362
    have e1 : ((q : Int) - 1).toNat = q - 1 := by omega
    have ho : Z3M F L M OS TS q = false := by unfold Z3M; rw [← e1]; simp only [b309, b337, b345, n365, n366, bls]
    exact ⟨by simp only [Z0v, Z0M, ZP (show q < TS.length by omega) ho, Bool.and_false], H361.upd 0 rfl [] ne⟩
   have g367 := Z2 b362
   refine Z3L _ b362 ?_
   refine Zp <| ztn <| zsl <| wv 200 (pt b6 3) <| zw1 201 (.slice oa OS.length oc) (H361.cell 2 rfl rfl) <| wv 202 (vi OS.length) <| wv 203 (vi 0) <| znt <| Zh <| ZB ([6, 17] ++ List.range' 203 13) (fun F_ W_ m_ => ∃ (j : Nat), F_ 203 = (vi j) ∧ (j ≤ OS.length) ∧ (∀ j_, j_ < j → decide ((OS.getD j_ op0).i = (TS.getD q tb0).i) = false) ∧ Sat w [zR w, Z0 b2 36 (Z4P F c E last vg na OO.length nc), Z0 b6 47 (Z7k xe xt pa PS.length pc oa OS.length oc ta TS.length tc), Z0 b318 89 (Z3Q (TS.getD q tb0) ((TS.getD q tb0).D.length)), Z0 b330 63 (Z5N ((Zv M ((TS.getD q tb0).i)).getD Z1t))] W_ ∧ m_ = OS.length - j) _ ⟨0, (show ((vi 0) : Value) = _ by first | rfl | go_num), (Nat.zero_le _), (fun _ h => absurd h (Nat.not_lt_zero _)), H361, rfl⟩ ?_
   rintro g369 w370 _ ⟨j, v372, hj, hallj, H371, rfl⟩
   refine Zn 203 _ v372 ?_
   refine zsl <| wv 204 (.bool (decide ((j : Int) < OS.length))) <| znt <| Z9 ?_
   refine zid (fun b374 g375 => ?_) fun b374 g391 => ?_
   ·refine Zp <| ztn <| Z9 <| Zh <| zsl <| wv 205 (vi j) <| wv 17 (vi j) <| znt <| Z9 <| zqs H371 ?_
    refine qv 206 (pt b6 3) <| qv 207 (.slice oa OS.length oc) ?_ (hr := fun _ H' => (zl1 (H'.cell 2 rfl rfl)))
    refine qv 208 (vi j) ?_
    obtain ⟨g377, o378, c379, e380, R381⟩ := SliceOf.atD hOS op0 (show j < OS.length by omega)
    refine qv 209 (.pointer (some ⟨g377, o378 + ((j : Int)).toNat * 34, none⟩)) ?_ (hr := fun _ H' => (Z8 (E := 86) kr kr kn rfl e380 rfl om om))
    refine qv 210 (.pointer (some ⟨g377, o378 + ((j : Int)).toNat * 34, none⟩)) <| qv 211 (vi ((OS.getD j op0).i)) ?_ (hr := fun _ H' => (zl1 (H'.cellR 0 rfl (Z0f R381 0 kr (show o378 + ((j : Int)).toNat * 34 = o378 + j * 34 + 0 by omega)) (fun h => h))))
    refine qv 212 (pt b318 0) <| qv 213 (vi ((TS.getD q tb0).i)) ?_ (hr := fun _ H' => (zl1 (H'.cell 3 rfl rfl)))
    refine qv 214 (.bool (decide (((OS.getD j op0).i) = ((TS.getD q tb0).i)))) <| Z01 fun w382 H383 => ?_
    apply ztn
    refine zid (fun b384 g385 => ?_) fun b384 g389 => ?_
    ·refine zsl <| wv 6 (.bool false) <| znt <| Zk <| Zf <| Z4 <| Zs <| Zf <| Zf <| Z4 ?_
     refine Zs <| Zf <| Z4 <| ze1 (.bool false) ?_
     have hhz : Z7i (fun x : OpR => x.i) OS (TS.getD q tb0).i = true := Zad (show j < OS.length by omega) b384
     have n387 := Z2 b352
     have n388 := Z2 b362
     have e1 : ((q : Int) - 1).toNat = q - 1 := by omega
     have ho : Z3M F L M OS TS q = false := by unfold Z3M; rw [← e1]; simp only [b309, b337, b345, n387, n388, b374, b384, hhz, bls]
     exact ⟨by simp only [Z0v, Z0M, ZP (show q < TS.length by omega) ho, Bool.and_false], H383.upd 0 rfl [] ne⟩
    refine Zp <| Z6 <| ztn <| ZG <| zwi 215 ((j : Int) + 1) <| wv 203 (vi ((j : Int) + 1)) <| ZL <| Za ?_ _ ⟨(j + 1), rfl, om, (fun j_ hj_ => by rcases Nat.lt_or_ge j_ j with h | h; exact hallj j_ h; rw [show j_ = j by omega]; exact b384), H383, rfl⟩ om
    exact zs
   refine zxb <| Z6 <| ztn <| ZG <| zwi 216 ((q : Int) + 1) <| wv 159 (vi ((q : Int) + 1)) <| ZL ?_
   have hhz : Z7i (fun x : OpR => x.i) OS (TS.getD q tb0).i = false := Zax (fun j_ hj_ => hallj j_ om)
   have n393 := Z2 b352
   have n394 := Z2 b362
   have e1 : ((q : Int) - 1).toNat = q - 1 := by omega
   have ho : Z3M F L M OS TS q = true := by unfold Z3M; rw [← e1]; simp only [b309, b337, b345, n393, n394, b374, hhz, bls]
   have H395 := H371.pk [0, 1, 2]
   refine Za ?_ _ ⟨(q + 1), rfl, om, (fun j hj => by rcases Nat.lt_or_ge j q with h | h; exact hallq j h; rw [show j = q by omega]; exact ho), H395, rfl⟩ om
   exact zs
  iterate 10 refine qn 2 176 true ?_
  refine qv 187 (.bool false) <| qv 188 (.bool false) <| qy 14 188 false 189 (.bool ((Zv M ((TS.getD q tb0).i)).isSome)) <| qy 14 188 false 190 (.bool (!((Zv M ((TS.getD q tb0).i)).isSome))) <| qv 191 (.bool (!((Zv M ((TS.getD q tb0).i)).isSome))) <| qv 192 (.bool (!((Zv M ((TS.getD q tb0).i)).isSome))) ?_
  refine (ZY (!((Zv M ((TS.getD q tb0).i)).isSome))).elim (fun b398 => ?_) (fun b398 => ?_)
  ·have g399 := Z7 b398
   refine Z09 192 (.bool true) (congrArg Value.bool b398) ?_
   iterate 6 refine qn 18 192 false ?_
   refine qv 199 (.bool true) <| Z01 fun w401 H402 => ?_
   refine ztn <| Z06 rfl ?_
   refine zsl <| wv 6 (.bool false) <| znt <| Zk <| Z4 <| Zf <| Z4 <| Zs <| Zf <| Z4 ?_
   refine ze1 (.bool false) ?_
   have n403 := Z7 b398
   have e1 : ((q : Int) - 1).toNat = q - 1 := by omega
   have ho : Z3M F L M OS TS q = false := by unfold Z3M; rw [← e1]; simp only [b309, b337, n403, bls]
   exact ⟨by simp only [Z0v, Z0M, ZP (show q < TS.length by omega) ho, Bool.and_false], H402.upd 0 rfl [] ne⟩
  have g404 := Z2 b398
  refine Z09 192 (.bool false) (congrArg Value.bool b398) ?_
  refine qy 18 192 false 193 (pt b2 0) <| qy 18 192 false 194 (.agg ⟨(Z1x F c)⟩) ?_ (hr := fun _ H' => (zlN (vs := (Z1x F c)) (H'.at 1 rfl)))
  refine qy 18 192 false 195 (pt r 0) <| qy 18 192 false 196 (.agg ⟨(Z3Q (TS.getD q tb0) ((TS.getD q tb0).D.length))⟩) ?_ (hr := fun _ H' => (zlN (vs := (Z3Q (TS.getD q tb0) ((TS.getD q tb0).D.length))) (H'.at 3 rfl)))
  refine Z0r (Z05 18 192 false rfl kr rfl kr) (d := 197) (v := (.bool (Z0j F L (TS.getD q tb0).i (TS.getD q tb0).D))) rfl (fun _ _ => by kernel_rfl) (fun w' H' => (Z3A w' F c hF r ra rc L (H'.roCk 0 rfl hb (fun _ _ h => h)) (H'.roCk 0 rfl hr (fun _ _ h => h)) hn hL (TS.getD q tb0).i (TS.getD q tb0).da (TS.getD q tb0).dc (TS.getD q tb0).D (ListAt.now H' 0 rfl (hTk q om).D) (hTk q om).ok (hTk q om).len).mono fun _ _ h => ⟨h.1, H'.keepU h.2⟩) ?_
  refine qy 18 192 false 198 (.bool (!(Z0j F L (TS.getD q tb0).i (TS.getD q tb0).D))) <| qv 199 (.bool (!(Z0j F L (TS.getD q tb0).i (TS.getD q tb0).D))) <| Z01 fun w406 H407 => ?_
  apply ztn
  refine (ZY (!(Z0j F L (TS.getD q tb0).i (TS.getD q tb0).D))).elim (fun b408 => ?_) (fun b408 => ?_)
  ·have g409 := Z7 b408
   refine Z48 _ b408 ?_
   refine zsl <| wv 6 (.bool false) <| znt <| Zk <| Z4 <| Zf <| Z4 <| Zs <| Zf <| Z4 ?_
   refine ze1 (.bool false) ?_
   have n411 := Z2 b398
   have n412 := Z7 b408
   have e1 : ((q : Int) - 1).toNat = q - 1 := by omega
   have ho : Z3M F L M OS TS q = false := by unfold Z3M; rw [← e1]; simp only [b309, b337, n411, n412, bls]
   exact ⟨by simp only [Z0v, Z0M, ZP (show q < TS.length by omega) ho, Bool.and_false], H407.upd 0 rfl [] ne⟩
  have g413 := Z2 b408
  refine Z3L _ b408 ?_
  refine Zp <| ztn <| zsl <| wv 200 (pt b6 3) <| zw1 201 (.slice oa OS.length oc) (H407.cell 2 rfl rfl) <| wv 202 (vi OS.length) <| wv 203 (vi 0) <| znt <| Zh <| ZB ([6, 17] ++ List.range' 203 13) (fun F_ W_ m_ => ∃ (j : Nat), F_ 203 = (vi j) ∧ (j ≤ OS.length) ∧ (∀ j_, j_ < j → decide ((OS.getD j_ op0).i = (TS.getD q tb0).i) = false) ∧ Sat w [zR w, Z0 b2 36 (Z4P F c E last vg na OO.length nc), Z0 b6 47 (Z7k xe xt pa PS.length pc oa OS.length oc ta TS.length tc), Z0 b318 89 (Z3Q (TS.getD q tb0) ((TS.getD q tb0).D.length)), Z0 b330 63 (Z5N ((Zv M ((TS.getD q tb0).i)).getD Z1t))] W_ ∧ m_ = OS.length - j) _ ⟨0, (show ((vi 0) : Value) = _ by first | rfl | go_num), (Nat.zero_le _), (fun _ h => absurd h (Nat.not_lt_zero _)), H407, rfl⟩ ?_
  rintro g415 w416 _ ⟨j, v418, hj, hallj, H417, rfl⟩
  refine Zn 203 _ v418 ?_
  refine zsl <| wv 204 (.bool (decide ((j : Int) < OS.length))) <| znt <| Z9 ?_
  refine zid (fun b420 g421 => ?_) fun b420 g437 => ?_
  ·refine Zp <| ztn <| Z9 <| Zh <| zsl <| wv 205 (vi j) <| wv 17 (vi j) <| znt <| Z9 <| zqs H417 ?_
   refine qv 206 (pt b6 3) <| qv 207 (.slice oa OS.length oc) ?_ (hr := fun _ H' => (zl1 (H'.cell 2 rfl rfl)))
   refine qv 208 (vi j) ?_
   obtain ⟨g423, o424, c425, e426, R427⟩ := SliceOf.atD hOS op0 (show j < OS.length by omega)
   refine qv 209 (.pointer (some ⟨g423, o424 + ((j : Int)).toNat * 34, none⟩)) ?_ (hr := fun _ H' => (Z8 (E := 86) kr kr kn rfl e426 rfl om om))
   refine qv 210 (.pointer (some ⟨g423, o424 + ((j : Int)).toNat * 34, none⟩)) <| qv 211 (vi ((OS.getD j op0).i)) ?_ (hr := fun _ H' => (zl1 (H'.cellR 0 rfl (Z0f R427 0 kr (show o424 + ((j : Int)).toNat * 34 = o424 + j * 34 + 0 by omega)) (fun h => h))))
   refine qv 212 (pt b318 0) <| qv 213 (vi ((TS.getD q tb0).i)) ?_ (hr := fun _ H' => (zl1 (H'.cell 3 rfl rfl)))
   refine qv 214 (.bool (decide (((OS.getD j op0).i) = ((TS.getD q tb0).i)))) <| Z01 fun w428 H429 => ?_
   apply ztn
   refine zid (fun b430 g431 => ?_) fun b430 g435 => ?_
   ·refine zsl <| wv 6 (.bool false) <| znt <| Zk <| Zf <| Z4 <| Zs <| Zf <| Zf <| Z4 ?_
    refine Zs <| Zf <| Z4 <| ze1 (.bool false) ?_
    have hhz : Z7i (fun x : OpR => x.i) OS (TS.getD q tb0).i = true := Zad (show j < OS.length by omega) b430
    have n433 := Z2 b398
    have n434 := Z2 b408
    have e1 : ((q : Int) - 1).toNat = q - 1 := by omega
    have ho : Z3M F L M OS TS q = false := by unfold Z3M; rw [← e1]; simp only [b309, b337, n433, n434, b420, b430, hhz, bls]
    exact ⟨by simp only [Z0v, Z0M, ZP (show q < TS.length by omega) ho, Bool.and_false], H429.upd 0 rfl [] ne⟩
   refine Zp <| Z6 <| ztn <| ZG <| zwi 215 ((j : Int) + 1) <| wv 203 (vi ((j : Int) + 1)) <| ZL <| Za ?_ _ ⟨(j + 1), rfl, om, (fun j_ hj_ => by rcases Nat.lt_or_ge j_ j with h | h; exact hallj j_ h; rw [show j_ = j by omega]; exact b430), H429, rfl⟩ om
   exact zs
  refine zxb <| Z6 <| ztn <| ZG <| zwi 216 ((q : Int) + 1) <| wv 159 (vi ((q : Int) + 1)) <| ZL ?_
  have hhz : Z7i (fun x : OpR => x.i) OS (TS.getD q tb0).i = false := Zax (fun j_ hj_ => hallj j_ om)
  have n439 := Z2 b398
  have n440 := Z2 b408
  have e1 : ((q : Int) - 1).toNat = q - 1 := by omega
  have ho : Z3M F L M OS TS q = true := by unfold Z3M; rw [← e1]; simp only [b309, b337, n439, n440, b420, hhz, bls]
  have H441 := H417.pk [0, 1, 2]
  refine Za ?_ _ ⟨(q + 1), rfl, om, (fun j hj => by rcases Nat.lt_or_ge j q with h | h; exact hallq j h; rw [show j = q by omega]; exact ho), H441, rfl⟩ om
  exact zs
 refine zxb <| ztn <| zsl <| wv 6 (.bool true) <| znt <| Zk <| ze1 (.bool true) ?_
 have hzq : q = TS.length := by omega
 have hAq : (List.range TS.length).all (Z3M F L M OS TS) = true := Z1r (by rw [← hzq]; exact hallq)
 exact ⟨by simp only [Z0v, Z0M, hAi, hAk, hAq, n68, b21, b29, n69, b50, b61, bls], H306.upd 0 rfl [] ne⟩
end Go.Proofs.YtenihpghfdcpkaaGreat
