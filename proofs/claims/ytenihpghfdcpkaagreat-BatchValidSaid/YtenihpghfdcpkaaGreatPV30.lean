/- WHAT IS PROVED: contracts and plain laws of VaP. Conditions: stated with each. -/
import Derived.Test.YtenihpghfdcpkaaGreatPV02
import Derived.Test.YtenihpghfdcpkaaGreatPV05
import Derived.Test.YtenihpghfdcpkaaGreatPV25
import Derived.Test.YtenihpghfdcpkaaGreatPV29
set_option maxHeartbeats 4000000
set_option maxRecDepth 100000
namespace Go.Proofs.YtenihpghfdcpkaaGreat
open Go.RowKit
abbrev Z4h (p0 : Int) (p1 : Int) (p2 : Int) (p3 : Int) (p4 : Value) (p5 : Nat) : List Value := ([i6 p0, i6 p1, i6 p2, u6 p3, p4, (.map (some p5))] : LV)
abbrev Zej (p0 : Int) (p1 : Int) (p2 : Option Addr) (p3 : Nat) (p4 : Nat) (p5 : Value) (p6 : Value) : List Value := ([i6 p0, u6 p1, (.slice p2 p3 p4), p5, p6] : LV)
abbrev Z6U (p0 : PrR) (p1 : Nat) : List Value := ([i6 p0.r, i6 p0.e, u6 p0.f, (.slice p0.ca p1 p0.cc), i6 p0.sb, i6 p0.sm] : LV)
abbrev kVaP_3 : List Value := ([i6 0, i6 0, u6 0, (.slice none 0 0), i6 0, i6 0] : LV)
abbrev Z4L (p0 : Int) (p1 : Int) : List Value := ([i6 p0, i6 p1] : LV)
abbrev Z8R (p0 : Int) (p1 : Int) (p2 : Option Addr) (p3 : Nat) (p4 : Nat) (p5 : Option Addr) (p6 : Nat) (p7 : Nat) (p8 : Option Addr) (p9 : Nat) (p10 : Nat) : List Value := ([i6 p0, u6 p1, (.slice p2 p3 p4), (.slice p5 p6 p7), (.slice p8 p9 p10)] : LV)
abbrev Z6Z (p0 : OpR) (p1 : Nat) : List Value := ([i6 p0.i, (.slice p0.pa p1 p0.pc)] : LV) ++ hc p0.h
abbrev Z6H (p0 : TbR) (p1 : Nat) : List Value := ([i6 p0.i, (.slice p0.da p1 p0.dc)] : LV)
abbrev Zaq (p0 : Z3x) : List Value := ([i6 p0.cl, i6 p0.sq] : LV) ++ hc p0.h ++ ([u6 p0.t] : LV)
abbrev kVaP_9 : List Value := ([i6 0, i6 0] : LV) ++ hc Zz ++ ([u6 0] : LV)
noncomputable def Z3N (F cn : Int) (L : List Signed) (e t : Int) (PS : List PrR) (i : Nat) : Bool := (!decide ((i : Int) > 0) || !decide ((PS.getD i pr0).r ≤ (PS.getD (i - 1) pr0).r)) && decide ((PS.getD i pr0).e = e) && decide ((PS.getD i pr0).f = t) && Z0H F cn L (PS.getD i pr0)
noncomputable def Z0M (F cn : Int) (L : List Signed) (e t : Int) (PS : List PrR) : Bool := (List.range PS.length).all (Z3N F cn L e t PS) && decide ((PS.length : Int) = 2 * F + 1)
def Z4K (M : List (Int × Z3x)) (OS : List OpR) (i : Nat) : Bool := (!decide ((i : Int) > 0) || !decide ((OS.getD i op0).i ≤ (OS.getD (i - 1) op0).i)) && Z28 M (OS.getD i op0)
def Z3M (F : Int) (L : List Signed) (M : List (Int × Z3x)) (OS : List OpR) (TS : List TbR) (i : Nat) : Bool := (!decide ((i : Int) > 0) || !decide ((TS.getD i tb0).i ≤ (TS.getD (i - 1) tb0).i)) && (Zv M (TS.getD i tb0).i).isSome && !Z7i (fun x : OpR => x.i) OS (TS.getD i tb0).i && Z0j F L (TS.getD i tb0).i (TS.getD i tb0).D
noncomputable def Z0v (F cn E last : Int) (L : List Signed) (M : List (Int × Z3x)) (e t : Int) (PS : List PrR) (OS : List OpR) (TS : List TbR) : Bool := decide (e = E) && !decide (t ≤ last) && !decide (t = 18446744073709551615) && !decide ((OS.length : Int) > 64) && !decide ((TS.length : Int) > 64) && Z0M F cn L e t PS && (List.range OS.length).all (Z4K M OS) && (List.range TS.length).all (Z3M F L M OS TS)
structure PrW (w : World) (p : PrR) : Prop where
 C : ListAt Z1o 38 w (.slice p.ca p.C.length p.cc) p.C
 B : ∀ i, i < p.C.length → CeB w (p.C.getD i ce0)
 l12 : ∀ i, i < p.C.length → (p.C.getD i ce0).S.length ≤ 12
 len : p.C.length ≤ 64
 lim : p.r ≤ 9223372036854775807 ∧ p.e ≤ 9223372036854775807 ∧ 0 ≤ p.f ∧ p.f < 18446744073709551616
theorem PrW.now {w w0 w' : World} {G : List Ck} {p : PrR} (h : PrW w p) (H : Sat w0 G w') (j : Nat) (hj : G[j]? = some (ZQ w fun _ => False)) : PrW w' p := ⟨ListAt.now H j hj h.C, fun i hi => (h.B i hi).keep H j hj, h.l12, h.len, h.lim⟩
structure TbW (w : World) (t : TbR) : Prop where
 D : ListAt Z4v 4 w (.slice t.da t.D.length t.dc) t.D
 ok : ∀ i, i < t.D.length → ZcP (t.D.getD i Z0F)
 len : t.D.length ≤ 1000000
theorem Z4A {α : Type} (L : List α) (d : α) {i : Nat} (h : i < L.length) : L.take (i + 1) = L.take i ++ [L.getD i d] := by
 rw [List.take_add_one, List.getElem?_eq_getElem h, List.getD_eq_getElem?_getD, List.getElem?_eq_getElem h]; rfl
theorem ZaI (w : World) (F c E last : Int) (hF : 1 ≤ F ∧ F ≤ 1099511627776) (vm : Value) (mo : Nat) (b mb : Nat) (L : List Signed) (hb : (Z0 b 179 [.map (some mb)]).ok w) (hm : MapAt w mb Z0c (Value.int .i64) (Z0o L)) (xe xt : Int) (pa : Option Addr) (pc : Nat) (PS : List PrR) (hPS : ListAt Z0T 6 w (.slice pa PS.length pc) PS) (hlP : PS.length ≤ 1000000) (hPk : ∀ i, i < PS.length → PrW w (PS.getD i pr0)) (vo vt : Value) :
  Calls Tryz.prog 72 #[zp b, (.agg ⟨([i6 F, i6 c, i6 E, u6 last, (vm), (.map (some mo))] : LV)⟩), (.agg ⟨([i6 xe, u6 xt, (.slice pa PS.length pc), (vo), (vt)] : LV)⟩)] w fun e w' => e = .returned (.bool (Z0M F c L xe xt PS)) ∧ Upd [] w w' := by
 have H := Sat.start0 w
 refine Zg Tryz.func72 rfl 61 rfl kn ?_
 refine zsl <| zy <| zdb (Z4h F c E last vm mo) H fun b2 w3 H4 => ?_
 refine kk <| zy <| zdb (Zej xe xt pa PS.length pc vo vt) H4 fun b6 w7 H8 => ?_
 refine kk <| wv 6 (.bool false) <| znt <| Z9 <| zsl <| wv 9 (pt b6 2) <| zw1 10 (.slice pa PS.length pc) (H8.cell 2 rfl rfl) <| wv 11 (vi PS.length) <| wv 12 (vi 0) <| znt ?_
 refine Zh <| ZB ([6, 7, 8] ++ List.range' 12 42) (fun F_ W_ m_ => ∃ (i : Nat), F_ 12 = (vi i) ∧ (i ≤ PS.length) ∧ (∀ j, j < i → Z3N F c L xe xt PS j = true) ∧ Sat w [zR w, Z0 b2 54 (Z4h F c E last vm mo), Z0 b6 47 (Zej xe xt pa PS.length pc vo vt)] W_ ∧ m_ = PS.length - i) _ ⟨0, (show ((vi 0) : Value) = _ by first | rfl | go_num), (Nat.zero_le _), (fun _ h => absurd h (Nat.not_lt_zero _)), H8, rfl⟩ ?_
 rintro g9 w10 _ ⟨i, v12, hi, halli, H11, rfl⟩
 refine Zn 12 _ v12 ?_
 refine zsl <| wv 13 (.bool (decide ((i : Int) < PS.length))) <| znt <| Z9 ?_
 refine zid (fun b14 g15 => ?_) fun b14 g125 => ?_
 ·refine Zp <| ztn <| Z9 <| Zh <| zsl <| wv 14 (vi i) ?_
  obtain ⟨g17, o18, c19, e20, R21⟩ := SliceOf.atD hPS pr0 (show i < PS.length by omega)
  refine wv 15 (.pointer (some ⟨g17, o18 + ((i : Int)).toNat * 6, none⟩)) ?_ (hr := Z8 (E := 71) kr kr kn rfl e20 rfl om om)
  refine wv 16 (.agg ⟨(Z6U (PS.getD i pr0) ((PS.getD i pr0).C.length))⟩) ?_ (hr := ZX (vs := (Z6U (PS.getD i pr0) ((PS.getD i pr0).C.length))) rfl kr kr kn (H11.runR 0 rfl (Z08 R21 0 kr (show o18 + ((i : Int)).toNat * 6 = o18 + i * 6 + 0 by omega)) (fun h => h)))
  refine zy <| zda (kVaP_3) H11 fun b23 w24 H25 => ?_
  refine kk <| wv 7 (vi i) <| zy <| Z1S (Z6U (PS.getD i pr0) ((PS.getD i pr0).C.length)) H25 3 fun w27 H28 => ?_
  refine kk <| znt <| Z9 <| zqs H28 ?_
  refine qv 17 (vi i) <| qv 18 (.bool (decide ((i : Int) > 0))) <| qv 19 (.bool (decide ((i : Int) > 0))) ?_
  refine ziq 19 (fun b30 g31 => ?_) fun b30 g84 => ?_
  ·refine qy 2 19 true 20 (pt b23 0) <| qy 2 19 true 21 (vi ((PS.getD i pr0).r)) ?_ (hr := fun _ H' => (zl1 (H'.cell 3 rfl rfl)))
   refine qy 2 19 true 22 (pt b6 2) <| qy 2 19 true 23 (.slice pa PS.length pc) ?_ (hr := fun _ H' => (zl1 (H'.cell 2 rfl rfl)))
   refine qy 2 19 true 24 (vi i) <| qy 2 19 true 25 (vi ((i : Int) - 1)) ?_ (hr := fun _ H' => (Z0A (z := (i : Int) - 1) kr (IntWalk.i64_in _ om)))
   obtain ⟨g33, o34, c35, e36, R37⟩ := SliceOf.atD hPS pr0 (show ((i : Int) - 1).toNat < PS.length by omega)
   refine qy 2 19 true 26 (.pointer (some ⟨g33, o34 + ((i : Int) - 1).toNat * 6, none⟩)) ?_ (hr := fun _ H' => (Z8 (E := 71) kr kr kn rfl e36 rfl om om))
   refine qy 2 19 true 27 (.pointer (some ⟨g33, o34 + ((i : Int) - 1).toNat * 6, none⟩)) <| qy 2 19 true 28 (vi ((PS.getD ((i : Int) - 1).toNat pr0).r)) ?_ (hr := fun _ H' => (zl1 (H'.cellR 0 rfl (Z0f R37 0 kr (show o34 + ((i : Int) - 1).toNat * 6 = o34 + ((i : Int) - 1).toNat * 6 + 0 by omega)) (fun h => h))))
   refine qy 2 19 true 29 (.bool (decide (((PS.getD i pr0).r) ≤ ((PS.getD ((i : Int) - 1).toNat pr0).r)))) <| qv 30 (.bool (decide (((PS.getD i pr0).r) ≤ ((PS.getD ((i : Int) - 1).toNat pr0).r)))) <| qv 31 (.bool (decide (((PS.getD i pr0).r) ≤ ((PS.getD ((i : Int) - 1).toNat pr0).r)))) ?_
   refine ziq 31 (fun b38 g39 => ?_) fun b38 g43 => ?_
   ·iterate 5 refine qn 14 31 false ?_
    refine qv 37 (.bool true) <| qv 38 (.bool true) ?_
    iterate 5 refine qn 21 38 false ?_
    refine qv 44 (.bool true) <| qv 45 (.bool true) ?_
    iterate 6 refine qn 28 45 false ?_
    refine qv 52 (.bool true) <| Z01 fun w41 H42 => ?_
    refine ztn <| Z06 rfl ?_
    refine zsl <| wv 6 (.bool false) <| znt <| Zk <| Zf <| Z4 <| Zs <| Zf <| Z4 <| ze1 (.bool false) ?_
    have e1 : ((i : Int) - 1).toNat = i - 1 := by omega
    have ho : Z3N F c L xe xt PS i = false := by unfold Z3N; rw [← e1]; simp only [b14, b30, b38, bls]
    have hbad := ZP (show i < PS.length by omega) ho
    exact ⟨by simp only [Z0M, hbad, Bool.false_and], H42.upd 0 rfl [] ne⟩
   refine qy 14 31 false 32 (pt b23 1) <| qy 14 31 false 33 (vi ((PS.getD i pr0).e)) ?_ (hr := fun _ H' => (zl1 (H'.cell 3 rfl rfl)))
   refine qy 14 31 false 34 (pt b6 0) <| qy 14 31 false 35 (vi xe) ?_ (hr := fun _ H' => (zl1 (H'.cell 2 rfl rfl)))
   refine qy 14 31 false 36 (.bool (!(decide (((PS.getD i pr0).e) = xe)))) <| qv 37 (.bool (!(decide (((PS.getD i pr0).e) = xe)))) <| qv 38 (.bool (!(decide (((PS.getD i pr0).e) = xe)))) ?_
   refine (ZY (!(decide (((PS.getD i pr0).e) = xe)))).elim (fun b45 => ?_) (fun b45 => ?_)
   ·have g46 := Z7 b45
    have g47 := of_decide_eq_false g46
    refine Z09 38 (.bool true) (congrArg Value.bool b45) ?_
    iterate 5 refine qn 21 38 false ?_
    refine qv 44 (.bool true) <| qv 45 (.bool true) ?_
    iterate 6 refine qn 28 45 false ?_
    refine qv 52 (.bool true) <| Z01 fun w50 H51 => ?_
    refine ztn <| Z06 rfl ?_
    refine zsl <| wv 6 (.bool false) <| znt <| Zk <| Zf <| Z4 <| Zs <| Zf <| Z4 <| ze1 (.bool false) ?_
    have n52 := Z7 b45
    have e1 : ((i : Int) - 1).toNat = i - 1 := by omega
    have ho : Z3N F c L xe xt PS i = false := by unfold Z3N; rw [← e1]; simp only [b14, b30, b38, n52, bls]
    have hbad := ZP (show i < PS.length by omega) ho
    exact ⟨by simp only [Z0M, hbad, Bool.false_and], H51.upd 0 rfl [] ne⟩
   have g53 := Z2 b45
   have g54 := of_decide_eq_true g53
   refine Z09 38 (.bool false) (congrArg Value.bool b45) ?_
   refine qy 21 38 false 39 (pt b23 2) <| qy 21 38 false 40 (vu ((PS.getD i pr0).f)) ?_ (hr := fun _ H' => (zl1 (H'.cell 3 rfl rfl)))
   refine qy 21 38 false 41 (pt b6 1) <| qy 21 38 false 42 (vu xt) ?_ (hr := fun _ H' => (zl1 (H'.cell 2 rfl rfl)))
   refine qy 21 38 false 43 (.bool (!(decide (((PS.getD i pr0).f) = xt)))) <| qv 44 (.bool (!(decide (((PS.getD i pr0).f) = xt)))) <| qv 45 (.bool (!(decide (((PS.getD i pr0).f) = xt)))) ?_
   refine (ZY (!(decide (((PS.getD i pr0).f) = xt)))).elim (fun b57 => ?_) (fun b57 => ?_)
   ·have g58 := Z7 b57
    have g59 := of_decide_eq_false g58
    refine Z09 45 (.bool true) (congrArg Value.bool b57) ?_
    iterate 6 refine qn 28 45 false ?_
    refine qv 52 (.bool true) <| Z01 fun w62 H63 => ?_
    refine ztn <| Z06 rfl ?_
    refine zsl <| wv 6 (.bool false) <| znt <| Zk <| Zf <| Z4 <| Zs <| Zf <| Z4 <| ze1 (.bool false) ?_
    have n64 := Z2 b45
    have n65 := Z7 b57
    have e1 : ((i : Int) - 1).toNat = i - 1 := by omega
    have ho : Z3N F c L xe xt PS i = false := by unfold Z3N; rw [← e1]; simp only [b14, b30, b38, n64, n65, bls]
    have hbad := ZP (show i < PS.length by omega) ho
    exact ⟨by simp only [Z0M, hbad, Bool.false_and], H63.upd 0 rfl [] ne⟩
   have g66 := Z2 b57
   have g67 := of_decide_eq_true g66
   refine Z09 45 (.bool false) (congrArg Value.bool b57) ?_
   refine qy 28 45 false 46 (pt b2 0) <| qy 28 45 false 47 (.agg ⟨(Z4L F c)⟩) ?_ (hr := fun _ H' => (zlN (vs := (Z4L F c)) (H'.at 1 rfl)))
   refine qy 28 45 false 48 (pt b 0) <| qy 28 45 false 49 (.agg ⟨(Z6U (PS.getD i pr0) ((PS.getD i pr0).C.length))⟩) ?_ (hr := fun _ H' => (zlN (vs := (Z6U (PS.getD i pr0) ((PS.getD i pr0).C.length))) (H'.at 3 rfl)))
   refine Z0r (Z05 28 45 false rfl kr rfl kr) (d := 50) (v := (.bool (Z0H F c L (PS.getD i pr0)))) rfl (fun _ _ => by kernel_rfl) (fun w' H' => (Z6K w' F c om b mb L (H'.roCk 0 rfl hb (fun _ _ h => h)) (H'.roMap 0 rfl hm (fun h => h)) (PS.getD i pr0) ((hPk i om).now H' 0 rfl).C ((hPk i om).now H' 0 rfl).B ((hPk i om).now H' 0 rfl).l12 ((hPk i om).now H' 0 rfl).len ((hPk i om).now H' 0 rfl).lim).mono fun _ _ h => ⟨h.1, H'.keepU h.2⟩) ?_
   refine qy 28 45 false 51 (.bool (!(Z0H F c L (PS.getD i pr0)))) <| qv 52 (.bool (!(Z0H F c L (PS.getD i pr0)))) <| Z01 fun w70 H71 => ?_
   apply ztn
   refine (ZY (!(Z0H F c L (PS.getD i pr0)))).elim (fun b72 => ?_) (fun b72 => ?_)
   ·have g73 := Z7 b72
    refine Z48 _ b72 ?_
    refine zsl <| wv 6 (.bool false) <| znt <| Zk <| Zf <| Z4 <| Zs <| Zf <| Z4 <| ze1 (.bool false) ?_
    have n75 := Z2 b45
    have n76 := Z2 b57
    have n77 := Z7 b72
    have e1 : ((i : Int) - 1).toNat = i - 1 := by omega
    have ho : Z3N F c L xe xt PS i = false := by unfold Z3N; rw [← e1]; simp only [b14, b30, b38, n75, n76, n77, bls]
    have hbad := ZP (show i < PS.length by omega) ho
    exact ⟨by simp only [Z0M, hbad, Bool.false_and], H71.upd 0 rfl [] ne⟩
   have g78 := Z2 b72
   refine Z3L _ b72 ?_
   refine Zp <| Z6 <| ztn <| ZG <| zwi 53 ((i : Int) + 1) <| wv 12 (vi ((i : Int) + 1)) <| ZL ?_
   have n80 := Z2 b45
   have n81 := Z2 b57
   have n82 := Z2 b72
   have e1 : ((i : Int) - 1).toNat = i - 1 := by omega
   have ho : Z3N F c L xe xt PS i = true := by unfold Z3N; rw [← e1]; simp only [b14, b30, b38, n80, n81, n82, bls]
   have H83 := H71.pk [0, 1, 2]
   refine Za ?_ _ ⟨(i + 1), rfl, om, (fun j hj => by rcases Nat.lt_or_ge j i with h | h; exact halli j h; rw [show j = i by omega]; exact ho), H83, rfl⟩ om
   exact zs
  iterate 10 refine qn 2 19 true ?_
  refine qv 30 (.bool false) <| qv 31 (.bool false) <| qy 14 31 false 32 (pt b23 1) <| qy 14 31 false 33 (vi ((PS.getD i pr0).e)) ?_ (hr := fun _ H' => (zl1 (H'.cell 3 rfl rfl)))
  refine qy 14 31 false 34 (pt b6 0) <| qy 14 31 false 35 (vi xe) ?_ (hr := fun _ H' => (zl1 (H'.cell 2 rfl rfl)))
  refine qy 14 31 false 36 (.bool (!(decide (((PS.getD i pr0).e) = xe)))) <| qv 37 (.bool (!(decide (((PS.getD i pr0).e) = xe)))) <| qv 38 (.bool (!(decide (((PS.getD i pr0).e) = xe)))) ?_
  refine (ZY (!(decide (((PS.getD i pr0).e) = xe)))).elim (fun b86 => ?_) (fun b86 => ?_)
  ·have g87 := Z7 b86
   have g88 := of_decide_eq_false g87
   refine Z09 38 (.bool true) (congrArg Value.bool b86) ?_
   iterate 5 refine qn 21 38 false ?_
   refine qv 44 (.bool true) <| qv 45 (.bool true) ?_
   iterate 6 refine qn 28 45 false ?_
   refine qv 52 (.bool true) <| Z01 fun w91 H92 => ?_
   refine ztn <| Z06 rfl ?_
   refine zsl <| wv 6 (.bool false) <| znt <| Zk <| Zf <| Z4 <| Zs <| Zf <| Z4 <| ze1 (.bool false) ?_
   have n93 := Z7 b86
   have e1 : ((i : Int) - 1).toNat = i - 1 := by omega
   have ho : Z3N F c L xe xt PS i = false := by unfold Z3N; rw [← e1]; simp only [b14, b30, n93, bls]
   have hbad := ZP (show i < PS.length by omega) ho
   exact ⟨by simp only [Z0M, hbad, Bool.false_and], H92.upd 0 rfl [] ne⟩
  have g94 := Z2 b86
  have g95 := of_decide_eq_true g94
  refine Z09 38 (.bool false) (congrArg Value.bool b86) ?_
  refine qy 21 38 false 39 (pt b23 2) <| qy 21 38 false 40 (vu ((PS.getD i pr0).f)) ?_ (hr := fun _ H' => (zl1 (H'.cell 3 rfl rfl)))
  refine qy 21 38 false 41 (pt b6 1) <| qy 21 38 false 42 (vu xt) ?_ (hr := fun _ H' => (zl1 (H'.cell 2 rfl rfl)))
  refine qy 21 38 false 43 (.bool (!(decide (((PS.getD i pr0).f) = xt)))) <| qv 44 (.bool (!(decide (((PS.getD i pr0).f) = xt)))) <| qv 45 (.bool (!(decide (((PS.getD i pr0).f) = xt)))) ?_
  refine (ZY (!(decide (((PS.getD i pr0).f) = xt)))).elim (fun b98 => ?_) (fun b98 => ?_)
  ·have g99 := Z7 b98
   have g100 := of_decide_eq_false g99
   refine Z09 45 (.bool true) (congrArg Value.bool b98) ?_
   iterate 6 refine qn 28 45 false ?_
   refine qv 52 (.bool true) <| Z01 fun w103 H104 => ?_
   refine ztn <| Z06 rfl ?_
   refine zsl <| wv 6 (.bool false) <| znt <| Zk <| Zf <| Z4 <| Zs <| Zf <| Z4 <| ze1 (.bool false) ?_
   have n105 := Z2 b86
   have n106 := Z7 b98
   have e1 : ((i : Int) - 1).toNat = i - 1 := by omega
   have ho : Z3N F c L xe xt PS i = false := by unfold Z3N; rw [← e1]; simp only [b14, b30, n105, n106, bls]
   have hbad := ZP (show i < PS.length by omega) ho
   exact ⟨by simp only [Z0M, hbad, Bool.false_and], H104.upd 0 rfl [] ne⟩
  have g107 := Z2 b98
  have g108 := of_decide_eq_true g107
  refine Z09 45 (.bool false) (congrArg Value.bool b98) ?_
  refine qy 28 45 false 46 (pt b2 0) <| qy 28 45 false 47 (.agg ⟨(Z4L F c)⟩) ?_ (hr := fun _ H' => (zlN (vs := (Z4L F c)) (H'.at 1 rfl)))
  refine qy 28 45 false 48 (pt b 0) <| qy 28 45 false 49 (.agg ⟨(Z6U (PS.getD i pr0) ((PS.getD i pr0).C.length))⟩) ?_ (hr := fun _ H' => (zlN (vs := (Z6U (PS.getD i pr0) ((PS.getD i pr0).C.length))) (H'.at 3 rfl)))
  refine Z0r (Z05 28 45 false rfl kr rfl kr) (d := 50) (v := (.bool (Z0H F c L (PS.getD i pr0)))) rfl (fun _ _ => by kernel_rfl) (fun w' H' => (Z6K w' F c om b mb L (H'.roCk 0 rfl hb (fun _ _ h => h)) (H'.roMap 0 rfl hm (fun h => h)) (PS.getD i pr0) ((hPk i om).now H' 0 rfl).C ((hPk i om).now H' 0 rfl).B ((hPk i om).now H' 0 rfl).l12 ((hPk i om).now H' 0 rfl).len ((hPk i om).now H' 0 rfl).lim).mono fun _ _ h => ⟨h.1, H'.keepU h.2⟩) ?_
  refine qy 28 45 false 51 (.bool (!(Z0H F c L (PS.getD i pr0)))) <| qv 52 (.bool (!(Z0H F c L (PS.getD i pr0)))) <| Z01 fun w111 H112 => ?_
  apply ztn
  refine (ZY (!(Z0H F c L (PS.getD i pr0)))).elim (fun b113 => ?_) (fun b113 => ?_)
  ·have g114 := Z7 b113
   refine Z48 _ b113 ?_
   refine zsl <| wv 6 (.bool false) <| znt <| Zk <| Zf <| Z4 <| Zs <| Zf <| Z4 <| ze1 (.bool false) ?_
   have n116 := Z2 b86
   have n117 := Z2 b98
   have n118 := Z7 b113
   have e1 : ((i : Int) - 1).toNat = i - 1 := by omega
   have ho : Z3N F c L xe xt PS i = false := by unfold Z3N; rw [← e1]; simp only [b14, b30, n116, n117, n118, bls]
   have hbad := ZP (show i < PS.length by omega) ho
   exact ⟨by simp only [Z0M, hbad, Bool.false_and], H112.upd 0 rfl [] ne⟩
  have g119 := Z2 b113
  refine Z3L _ b113 ?_
  refine Zp <| Z6 <| ztn <| ZG <| zwi 53 ((i : Int) + 1) <| wv 12 (vi ((i : Int) + 1)) <| ZL ?_
  have n121 := Z2 b86
  have n122 := Z2 b98
  have n123 := Z2 b113
  have e1 : ((i : Int) - 1).toNat = i - 1 := by omega
  have ho : Z3N F c L xe xt PS i = true := by unfold Z3N; rw [← e1]; simp only [b14, b30, n121, n122, n123, bls]
  have H124 := H112.pk [0, 1, 2]
  refine Za ?_ _ ⟨(i + 1), rfl, om, (fun j hj => by rcases Nat.lt_or_ge j i with h | h; exact halli j h; rw [show j = i by omega]; exact ho), H124, rfl⟩ om
  exact zs
 refine zxb <| ztn <| Z9 <| zqs H11 ?_
 refine qv 54 (pt b6 2) <| qv 55 (.slice pa PS.length pc) ?_ (hr := fun _ H' => (zl1 (H'.cell 2 rfl rfl)))
 refine Z4a (Zc rfl) (d := 56) (v := (vi PS.length)) rfl (fun _ H' => kr) ?_
 refine qv 57 (pt b2 0) <| qv 58 (.agg ⟨(Z4L F c)⟩) ?_ (hr := fun _ H' => (zlN (vs := (Z4L F c)) (H'.at 1 rfl)))
 refine Z0r (Zc rfl) (d := 59) (v := (vi (2 * F + 1))) rfl (fun _ _ => by kernel_rfl) (fun w' H' => (Zbk w' F c om).mono fun _ _ h => ⟨h.1, H'.keepU h.2⟩) ?_
 refine qv 60 (.bool (decide ((PS.length : Int) = (2 * F + 1)))) <| qv 6 (.bool (decide ((PS.length : Int) = (2 * F + 1)))) <| Z01 fun w127 H128 => ?_
 refine ztn <| Zk <| ze1 (.bool (decide ((PS.length : Int) = (2 * F + 1)))) ?_
 have hn0 : i = PS.length := by omega
 subst hn0
 exact ⟨by simp only [Z0M, Z1r halli, Bool.true_and], H128.upd 0 rfl [] ne⟩
theorem Z9T (w : World) (F c E last : Int) (hF : 1 ≤ F ∧ F ≤ 1099511627776) (vm : Value) (mo : Nat) (M : List (Int × Z3x)) (hmo : MapAt w mo (Value.int .i64) Z9i M) (hM : OpenOk M) (b mb : Nat) (L : List Signed) (hb : (Z0 b 179 [.map (some mb)]).ok w) (hm : MapAt w mb Z0c (Value.int .i64) (Z0o L)) (xe xt : Int) (pa : Option Addr) (pc : Nat) (PS : List PrR) (hPS : ListAt Z0T 6 w (.slice pa PS.length pc) PS) (hlP : PS.length ≤ 1000000) (hPk : ∀ i, i < PS.length → PrW w (PS.getD i pr0)) (oa : Option Addr) (oc : Nat) (OS : List OpR) (hOS : ListAt Z0J 34 w (.slice oa OS.length oc) OS) (hlO : OS.length ≤ 1000000) (hoL : ∀ i, i < OS.length → ListAt Zx 1 w (.slice (OS.getD i op0).pa (OS.getD i op0).P.length (OS.getD i op0).pc) (OS.getD i op0).P) (hlo : ∀ i, i < OS.length → (OS.getD i op0).P.length ≤ 1000) (ta : Option Addr) (tc : Nat) (TS : List TbR) (hTS : ListAt Z16 2 w (.slice ta TS.length tc) TS) (hlT : TS.length ≤ 1000000) (hTk : ∀ i, i < TS.length → TbW w (TS.getD i tb0)) :
  Calls Tryz.prog 23 #[zp b, (.agg ⟨([i6 F, i6 c, i6 E, u6 last, (vm), (.map (some mo))] : LV)⟩), (.agg ⟨([i6 xe, u6 xt, (.slice pa PS.length pc), (.slice oa OS.length oc), (.slice ta TS.length tc)] : LV)⟩)] w fun e w' => e = .returned (.bool (Z0v F c E last L M xe xt PS OS TS)) ∧ Upd [] w w' := by
 have H := Sat.start0 w
 refine Zg Tryz.func23 rfl 132 rfl kn ?_
 refine zsl <| zy <| zdb (Z4h F c E last vm mo) H fun b2 w3 H4 => ?_
 refine kk <| zy <| zdb (Z8R xe xt pa PS.length pc oa OS.length oc ta TS.length tc) H4 fun b6 w7 H8 => ?_
 refine kk <| wv 6 (.bool false) <| znt <| Z9 <| zsl <| wv 14 (pt b6 0) <| zw1 15 (vi xe) (H8.cell 2 rfl rfl) <| wv 16 (pt b2 2) <| zw1 17 (vi E) (H8.cell 1 rfl rfl) <| wv 18 (.bool (!(decide (xe = E)))) ?_
 refine wv 19 (.bool (!(decide (xe = E)))) ?_
 refine (ZY (!(decide (xe = E)))).elim (fun b9 => ?_) (fun b9 => ?_)
 ·have g10 := Z7 b9
  have g11 := of_decide_eq_false g10
  refine Z1Q 19 (.bool true) (congrArg Value.bool b9) ?_
  iterate 5 refine wn 5 19 false ?_
  refine wv 25 (.bool true) <| wv 26 (.bool true) ?_
  iterate 3 refine wn 12 26 false ?_
  refine wv 30 (.bool true) <| wv 31 (.bool true) ?_
  iterate 4 refine wn 17 31 false ?_
  refine wv 36 (.bool true) <| wv 37 (.bool true) ?_
  iterate 4 refine wn 23 37 false ?_
  refine wv 42 (.bool true) <| wv 43 (.bool true) ?_
  iterate 5 refine wn 29 43 false ?_
  refine wv 49 (.bool true) <| znt <| Z06 rfl ?_
  refine zsl <| wv 6 (.bool false) <| znt <| Zk <| Z4 <| ze1 (.bool false) ?_
  have n14 := Z7 b9
  exact ⟨by simp only [Z0v, n14, bls], H8.upd 0 rfl [] ne⟩
 have g15 := Z2 b9
 have g16 := of_decide_eq_true g15
 refine Z1Q 19 (.bool false) (congrArg Value.bool b9) ?_
 refine wy 5 19 false 20 (pt b6 1) <| wy 5 19 false 21 (vu xt) ?_ (hr := zl1 (H8.cell 2 rfl rfl))
 refine wy 5 19 false 22 (pt b2 3) <| wy 5 19 false 23 (vu last) ?_ (hr := zl1 (H8.cell 1 rfl rfl))
 refine wy 5 19 false 24 (.bool (decide (xt ≤ last))) <| wv 25 (.bool (decide (xt ≤ last))) <| wv 26 (.bool (decide (xt ≤ last))) ?_
 refine zil 26 (fun b19 g20 => ?_) fun b19 g23 => ?_
 ·iterate 3 refine wn 12 26 false ?_
  refine wv 30 (.bool true) <| wv 31 (.bool true) ?_
  iterate 4 refine wn 17 31 false ?_
  refine wv 36 (.bool true) <| wv 37 (.bool true) ?_
  iterate 4 refine wn 23 37 false ?_
  refine wv 42 (.bool true) <| wv 43 (.bool true) ?_
  iterate 5 refine wn 29 43 false ?_
  refine wv 49 (.bool true) <| znt <| Z06 rfl ?_
  refine zsl <| wv 6 (.bool false) <| znt <| Zk <| Z4 <| ze1 (.bool false) ?_
  have n22 := Z2 b9
  exact ⟨by simp only [Z0v, n22, b19, bls], H8.upd 0 rfl [] ne⟩
 refine wy 12 26 false 27 (pt b6 1) <| wy 12 26 false 28 (vu xt) ?_ (hr := zl1 (H8.cell 2 rfl rfl))
 refine wy 12 26 false 29 (.bool (decide (xt = 18446744073709551615))) <| wv 30 (.bool (decide (xt = 18446744073709551615))) <| wv 31 (.bool (decide (xt = 18446744073709551615))) ?_
 refine zil 31 (fun b25 g26 => ?_) fun b25 g29 => ?_
 ·iterate 4 refine wn 17 31 false ?_
  refine wv 36 (.bool true) <| wv 37 (.bool true) ?_
  iterate 4 refine wn 23 37 false ?_
  refine wv 42 (.bool true) <| wv 43 (.bool true) ?_
  iterate 5 refine wn 29 43 false ?_
  refine wv 49 (.bool true) <| znt <| Z06 rfl ?_
  refine zsl <| wv 6 (.bool false) <| znt <| Zk <| Z4 <| ze1 (.bool false) ?_
  have n28 := Z2 b9
  exact ⟨by simp only [Z0v, n28, b19, b25, bls], H8.upd 0 rfl [] ne⟩
 refine wy 17 31 false 32 (pt b6 3) <| wy 17 31 false 33 (.slice oa OS.length oc) ?_ (hr := zl1 (H8.cell 2 rfl rfl))
 refine wy 17 31 false 34 (vi OS.length) <| wy 17 31 false 35 (.bool (decide ((OS.length : Int) > 64))) <| wv 36 (.bool (decide ((OS.length : Int) > 64))) <| wv 37 (.bool (decide ((OS.length : Int) > 64))) ?_
 refine zil 37 (fun b31 g32 => ?_) fun b31 g35 => ?_
 ·iterate 4 refine wn 23 37 false ?_
  refine wv 42 (.bool true) <| wv 43 (.bool true) ?_
  iterate 5 refine wn 29 43 false ?_
  refine wv 49 (.bool true) <| znt <| Z06 rfl ?_
  refine zsl <| wv 6 (.bool false) <| znt <| Zk <| Z4 <| ze1 (.bool false) ?_
  have n34 := Z2 b9
  exact ⟨by simp only [Z0v, n34, b19, b25, b31, bls], H8.upd 0 rfl [] ne⟩
 refine wy 23 37 false 38 (pt b6 4) <| wy 23 37 false 39 (.slice ta TS.length tc) ?_ (hr := zl1 (H8.cell 2 rfl rfl))
 refine wy 23 37 false 40 (vi TS.length) <| wy 23 37 false 41 (.bool (decide ((TS.length : Int) > 64))) <| wv 42 (.bool (decide ((TS.length : Int) > 64))) <| wv 43 (.bool (decide ((TS.length : Int) > 64))) ?_
 refine zil 43 (fun b37 g38 => ?_) fun b37 g41 => ?_
 ·iterate 5 refine wn 29 43 false ?_
  refine wv 49 (.bool true) <| znt <| Z06 rfl ?_
  refine zsl <| wv 6 (.bool false) <| znt <| Zk <| Z4 <| ze1 (.bool false) ?_
  have n40 := Z2 b9
  exact ⟨by simp only [Z0v, n40, b19, b25, b31, b37, bls], H8.upd 0 rfl [] ne⟩
 refine wy 29 43 false 44 (pt b 0) <| wy 29 43 false 45 (.agg ⟨(Z4h F c E last vm mo)⟩) ?_ (hr := zlN (vs := (Z4h F c E last vm mo)) (H8.at 1 rfl))
 refine wy 29 43 false 46 (.agg ⟨(Z8R xe xt pa PS.length pc oa OS.length oc ta TS.length tc)⟩) ?_ (hr := zlN (vs := (Z8R xe xt pa PS.length pc oa OS.length oc ta TS.length tc)) (H8.at 2 rfl))
 refine Z6R (Z05 29 43 false rfl kr rfl kr) (fun Kq kq => ?_)
 refine zdq 47 (ZaI w7 F c E last hF vm mo b mb L (H8.roCk 0 rfl hb (fun _ _ h => h)) (H8.roMap 0 rfl hm (fun h => h)) xe xt pa pc PS (ListAt.now H8 0 rfl hPS) hlP (fun i hi => (hPk i hi).now H8 0 rfl) (.slice oa OS.length oc) (.slice ta TS.length tc)) H8 ?_
 intro w44 H45
 refine kq _ _ <| wy 29 43 false 48 (.bool (!(Z0M F c L xe xt PS))) <| wv 49 (.bool (!(Z0M F c L xe xt PS))) <| znt ?_
 refine (ZY (!(Z0M F c L xe xt PS))).elim (fun b47 => ?_) (fun b47 => ?_)
 ·have g48 := Z7 b47
  refine Z48 _ b47 ?_
  refine zsl <| wv 6 (.bool false) <| znt <| Zk <| Z4 <| ze1 (.bool false) ?_
  have n50 := Z2 b9
  have n51 := Z7 b47
  exact ⟨by simp only [Z0v, n50, b19, b25, b31, b37, n51, bls], H45.upd 0 rfl [] ne⟩
 have g52 := Z2 b47
 refine Z3L _ b47 ?_
 refine Zp <| ztn <| zsl <| zy <| Z4c (Value.int .i64) Value.bool rfl H45 fun b55 w56 H57 => ?_
 refine kk <| wv 7 (.map (some b55)) <| znt <| Z9 <| zsl <| wv 51 (pt b6 3) <| zw1 52 (.slice oa OS.length oc) (H57.cell 2 rfl rfl) <| wv 53 (vi OS.length) <| wv 54 (vi 0) <| znt ?_
 apply Zh
 have n58 := Z2 b9
 have n59 := Z2 b47
 refine ZB ([6, 8, 9] ++ List.range' 54 29) (fun F_ W_ m_ => ∃ (i : Nat) (HV : List (Int × Bool)), F_ 54 = (vi i) ∧ (i ≤ OS.length) ∧ (∀ j, j < i → Z4K M OS j = true) ∧ (HvOk HV (fun x : OpR => x.i) (OS.take i)) ∧ Sat w [zR w, Z0 b2 54 (Z4h F c E last vm mo), Z0 b6 47 (Z8R xe xt pa PS.length pc oa OS.length oc ta TS.length tc), Z2S b55 (Value.int .i64) Value.bool HV] W_ ∧ m_ = OS.length - i) _ ⟨0, [], (show ((vi 0) : Value) = _ by first | rfl | go_num), (Nat.zero_le _), (fun _ h => absurd h (Nat.not_lt_zero _)), HvOk.nil, H57, rfl⟩ ?_
 rintro g60 w61 _ ⟨i, HV, v63, hi, halli, hhv, H62, rfl⟩
 refine Zn 54 _ v63 ?_
 refine zsl <| wv 55 (.bool (decide ((i : Int) < OS.length))) <| znt <| Z9 ?_
 refine zid (fun b65 g66 => ?_) fun b65 g124 => ?_
 ·refine Zp <| ztn <| Z9 <| Zh <| zsl <| wv 56 (vi i) ?_
  obtain ⟨g68, o69, c70, e71, R72⟩ := SliceOf.atD hOS op0 (show i < OS.length by omega)
  refine wv 57 (.pointer (some ⟨g68, o69 + ((i : Int)).toNat * 34, none⟩)) ?_ (hr := Z8 (E := 86) kr kr kn rfl e71 rfl om om)
  refine wv 58 (.agg ⟨(Z6Z (OS.getD i op0) ((OS.getD i op0).P.length))⟩) ?_ (hr := ZX (vs := (Z6Z (OS.getD i op0) ((OS.getD i op0).P.length))) rfl kr kr kn (H62.runR 0 rfl (Z08 R72 0 kr (show o69 + ((i : Int)).toNat * 34 = o69 + i * 34 + 0 by omega)) (fun h => h)))
  refine zy <| zda (([(vi 0), (.slice none 0 0)] : LV) ++ hc Zz) H62 fun b74 w75 H76 => ?_
  refine kk <| wv 8 (vi i) <| zy <| Z1S (Z6Z (OS.getD i op0) ((OS.getD i op0).P.length)) H76 4 fun w78 H79 => ?_
  refine kk <| znt <| Z9 <| Z9 <| zqs H79 ?_
  refine qv 59 (vi i) <| qv 60 (.bool (decide ((i : Int) > 0))) <| qv 61 (.bool (decide ((i : Int) > 0))) ?_
  refine ziq 61 (fun b81 g82 => ?_) fun b81 g109 => ?_
  ·refine qy 2 61 true 62 (pt b74 0) <| qy 2 61 true 63 (vi ((OS.getD i op0).i)) ?_ (hr := fun _ H' => (zl1 (H'.cell 4 rfl kr)))
   refine qy 2 61 true 64 (pt b6 3) <| qy 2 61 true 65 (.slice oa OS.length oc) ?_ (hr := fun _ H' => (zl1 (H'.cell 2 rfl rfl)))
   refine qy 2 61 true 66 (vi i) <| qy 2 61 true 67 (vi ((i : Int) - 1)) ?_ (hr := fun _ H' => (Z0A (z := (i : Int) - 1) kr (IntWalk.i64_in _ om)))
   obtain ⟨g84, o85, c86, e87, R88⟩ := SliceOf.atD hOS op0 (show ((i : Int) - 1).toNat < OS.length by omega)
   refine qy 2 61 true 68 (.pointer (some ⟨g84, o85 + ((i : Int) - 1).toNat * 34, none⟩)) ?_ (hr := fun _ H' => (Z8 (E := 86) kr kr kn rfl e87 rfl om om))
   refine qy 2 61 true 69 (.pointer (some ⟨g84, o85 + ((i : Int) - 1).toNat * 34, none⟩)) <| qy 2 61 true 70 (vi ((OS.getD ((i : Int) - 1).toNat op0).i)) ?_ (hr := fun _ H' => (zl1 (H'.cellR 0 rfl (Z0f R88 0 kr (show o85 + ((i : Int) - 1).toNat * 34 = o85 + ((i : Int) - 1).toNat * 34 + 0 by omega)) (fun h => h))))
   refine qy 2 61 true 71 (.bool (decide (((OS.getD i op0).i) ≤ ((OS.getD ((i : Int) - 1).toNat op0).i)))) <| qv 72 (.bool (decide (((OS.getD i op0).i) ≤ ((OS.getD ((i : Int) - 1).toNat op0).i)))) <| qv 73 (.bool (decide (((OS.getD i op0).i) ≤ ((OS.getD ((i : Int) - 1).toNat op0).i)))) ?_
   refine ziq 73 (fun b89 g90 => ?_) fun b89 g94 => ?_
   ·iterate 4 refine qn 14 73 false ?_
    refine qv 78 (.bool true) <| Z01 fun w92 H93 => ?_
    refine ztn <| Z06 rfl ?_
    refine zsl <| wv 6 (.bool false) <| znt <| Zk <| Z4 <| Zf <| Z4 <| Zs <| Zf <| Z4 ?_
    refine ze1 (.bool false) ?_
    have e1 : ((i : Int) - 1).toNat = i - 1 := by omega
    have ho : Z4K M OS i = false := by unfold Z4K; rw [← e1]; simp only [b65, b81, b89, bls]
    have hbad := ZP (show i < OS.length by omega) ho
    exact ⟨by simp only [Z0v, hbad, Bool.false_and, Bool.and_false], H93.upd 0 rfl [] ne⟩
   refine qy 14 73 false 74 (.agg ⟨(Z4h F c E last vm mo)⟩) ?_ (hr := fun _ H' => (zlN (vs := (Z4h F c E last vm mo)) (H'.at 1 rfl)))
   refine qy 14 73 false 75 (.agg ⟨(Z6Z (OS.getD i op0) ((OS.getD i op0).P.length))⟩) ?_ (hr := fun _ H' => (zlN (vs := (Z6Z (OS.getD i op0) ((OS.getD i op0).P.length))) (H'.at 4 rfl)))
   refine Z0r (Z05 14 73 false rfl kr rfl kr) (d := 76) (v := (.bool (Z28 M (OS.getD i op0)))) rfl (fun _ _ => by kernel_rfl) (fun w' H' => (Z6J w' F c E last vm mo M (H'.roMap 0 rfl hmo (fun h => h)) hM (OS.getD i op0) (ListAt.now H' 0 rfl (hoL i om)) (hlo i om)).mono fun _ _ h => ⟨h.1, H'.keepU h.2⟩) ?_
   refine qy 14 73 false 77 (.bool (!(Z28 M (OS.getD i op0)))) <| qv 78 (.bool (!(Z28 M (OS.getD i op0)))) <| Z01 fun w96 H97 => ?_
   apply ztn
   refine (ZY (!(Z28 M (OS.getD i op0)))).elim (fun b98 => ?_) (fun b98 => ?_)
   ·have g99 := Z7 b98
    refine Z48 _ b98 ?_
    refine zsl <| wv 6 (.bool false) <| znt <| Zk <| Z4 <| Zf <| Z4 <| Zs <| Zf <| Z4 ?_
    refine ze1 (.bool false) ?_
    have n101 := Z7 b98
    have e1 : ((i : Int) - 1).toNat = i - 1 := by omega
    have ho : Z4K M OS i = false := by unfold Z4K; rw [← e1]; simp only [b65, b81, b89, n101, bls]
    have hbad := ZP (show i < OS.length by omega) ho
    exact ⟨by simp only [Z0v, hbad, Bool.false_and, Bool.and_false], H97.upd 0 rfl [] ne⟩
   have g102 := Z2 b98
   refine Z3L _ b98 ?_
   refine Zp <| ztn <| ZG <| wv 79 (.map (some b55)) <| wv 80 (pt b74 0) <| zw1 81 (vi ((OS.getD i op0).i)) (H97.cell 4 rfl kr) <| zy <| Z3a (kt := 3) (et := 4) rfl H97 3 rfl (KeyTy.int kr) kr rfl ((OS.getD i op0).i) rfl true rfl fun w105 H106 => ?_
   refine kk <| ZL <| Z6 <| ztn <| ZG <| zwi 82 ((i : Int) + 1) <| wv 54 (vi ((i : Int) + 1)) <| ZL ?_
   have n107 := Z2 b98
   have e1 : ((i : Int) - 1).toNat = i - 1 := by omega
   have ho : Z4K M OS i = true := by unfold Z4K; rw [← e1]; simp only [b65, b81, b89, n107, bls]
   have H108 := H106.pk [0, 1, 2, 3]
   refine Za ?_ _ ⟨(i + 1), (Z30 HV ((OS.getD i op0).i) true), rfl, om, (fun j hj => by rcases Nat.lt_or_ge j i with h | h; exact halli j h; rw [show j = i by omega]; exact ho), (by rw [Z4A OS op0 om]; exact HvOk.put (num := (fun x : OpR => x.i)) (x := OS.getD i op0) hhv), H108, rfl⟩ om
   exact zs
  iterate 10 refine qn 2 61 true ?_
  refine qv 72 (.bool false) <| qv 73 (.bool false) <| qy 14 73 false 74 (.agg ⟨(Z4h F c E last vm mo)⟩) ?_ (hr := fun _ H' => (zlN (vs := (Z4h F c E last vm mo)) (H'.at 1 rfl)))
  refine qy 14 73 false 75 (.agg ⟨(Z6Z (OS.getD i op0) ((OS.getD i op0).P.length))⟩) ?_ (hr := fun _ H' => (zlN (vs := (Z6Z (OS.getD i op0) ((OS.getD i op0).P.length))) (H'.at 4 rfl)))
  refine Z0r (Z05 14 73 false rfl kr rfl kr) (d := 76) (v := (.bool (Z28 M (OS.getD i op0)))) rfl (fun _ _ => by kernel_rfl) (fun w' H' => (Z6J w' F c E last vm mo M (H'.roMap 0 rfl hmo (fun h => h)) hM (OS.getD i op0) (ListAt.now H' 0 rfl (hoL i om)) (hlo i om)).mono fun _ _ h => ⟨h.1, H'.keepU h.2⟩) ?_
  refine qy 14 73 false 77 (.bool (!(Z28 M (OS.getD i op0)))) <| qv 78 (.bool (!(Z28 M (OS.getD i op0)))) <| Z01 fun w111 H112 => ?_
  apply ztn
  refine (ZY (!(Z28 M (OS.getD i op0)))).elim (fun b113 => ?_) (fun b113 => ?_)
  ·have g114 := Z7 b113
   refine Z48 _ b113 ?_
   refine zsl <| wv 6 (.bool false) <| znt <| Zk <| Z4 <| Zf <| Z4 <| Zs <| Zf <| Z4 ?_
   refine ze1 (.bool false) ?_
   have n116 := Z7 b113
   have e1 : ((i : Int) - 1).toNat = i - 1 := by omega
   have ho : Z4K M OS i = false := by unfold Z4K; rw [← e1]; simp only [b65, b81, n116, bls]
   have hbad := ZP (show i < OS.length by omega) ho
   exact ⟨by simp only [Z0v, hbad, Bool.false_and, Bool.and_false], H112.upd 0 rfl [] ne⟩
  have g117 := Z2 b113
  refine Z3L _ b113 ?_
  refine Zp <| ztn <| ZG <| wv 79 (.map (some b55)) <| wv 80 (pt b74 0) <| zw1 81 (vi ((OS.getD i op0).i)) (H112.cell 4 rfl kr) <| zy <| Z3a (kt := 3) (et := 4) rfl H112 3 rfl (KeyTy.int kr) kr rfl ((OS.getD i op0).i) rfl true rfl fun w120 H121 => ?_
  refine kk <| ZL <| Z6 <| ztn <| ZG <| zwi 82 ((i : Int) + 1) <| wv 54 (vi ((i : Int) + 1)) <| ZL ?_
  have n122 := Z2 b113
  have e1 : ((i : Int) - 1).toNat = i - 1 := by omega
  have ho : Z4K M OS i = true := by unfold Z4K; rw [← e1]; simp only [b65, b81, n122, bls]
  have H123 := H121.pk [0, 1, 2, 3]
  refine Za ?_ _ ⟨(i + 1), (Z30 HV ((OS.getD i op0).i) true), rfl, om, (fun j hj => by rcases Nat.lt_or_ge j i with h | h; exact halli j h; rw [show j = i by omega]; exact ho), (by rw [Z4A OS op0 om]; exact HvOk.put (num := (fun x : OpR => x.i)) (x := OS.getD i op0) hhv), H123, rfl⟩ om
  exact zs
 refine zxb <| ztn <| Z9 <| zsl <| wv 83 (pt b6 4) <| zw1 84 (.slice ta TS.length tc) (H62.cell 2 rfl rfl) <| wv 85 (vi TS.length) <| wv 86 (vi 0) <| znt <| Zh ?_
 have hO : i = OS.length := by omega
 have hhv2 : HvOk HV (fun x : OpR => x.i) OS := by have q := hhv; rw [hO, List.take_length] at q; exact q
 refine ZB ([6, 10, 11, 12, 13] ++ List.range' 86 46) (fun F_ W_ m_ => ∃ (k : Nat), F_ 86 = (vi k) ∧ (k ≤ TS.length) ∧ (∀ j, j < k → Z3M F L M OS TS j = true) ∧ Sat w [zR w, Z0 b2 54 (Z4h F c E last vm mo), Z0 b6 47 (Z8R xe xt pa PS.length pc oa OS.length oc ta TS.length tc), Z2S b55 (Value.int .i64) Value.bool HV] W_ ∧ m_ = TS.length - k) _ ⟨0, (show ((vi 0) : Value) = _ by first | rfl | go_num), (Nat.zero_le _), (fun _ h => absurd h (Nat.not_lt_zero _)), H62, rfl⟩ ?_
 rintro g126 w127 _ ⟨k, v129, hk, hallk, H128, rfl⟩
 refine Zn 86 _ v129 ?_
 refine zsl <| wv 87 (.bool (decide ((k : Int) < TS.length))) <| znt <| Z9 ?_
 refine zid (fun b131 g132 => ?_) fun b131 g220 => ?_
 ·refine Zp <| ztn <| Z9 <| Zh <| zsl <| wv 88 (vi k) ?_
  obtain ⟨g134, o135, c136, e137, R138⟩ := SliceOf.atD hTS tb0 (show k < TS.length by omega)
  refine wv 89 (.pointer (some ⟨g134, o135 + ((k : Int)).toNat * 2, none⟩)) ?_ (hr := Z8 (E := 89) kr kr kn rfl e137 rfl om om)
  refine wv 90 (.agg ⟨(Z6H (TS.getD k tb0) ((TS.getD k tb0).D.length))⟩) ?_ (hr := ZX (vs := (Z6H (TS.getD k tb0) ((TS.getD k tb0).D.length))) rfl kr kr kn (H128.runR 0 rfl (Z08 R138 0 kr (show o135 + ((k : Int)).toNat * 2 = o135 + k * 2 + 0 by omega)) (fun h => h)))
  refine zy <| zda ([(vi 0), (.slice none 0 0)] : LV) H128 fun b140 w141 H142 => ?_
  refine kk <| wv 10 (vi k) <| zy <| Z1S (Z6H (TS.getD k tb0) ((TS.getD k tb0).D.length)) H142 4 fun w144 H145 => ?_
  refine kk <| Z1a <| wv 92 (pt b2 5) <| zw1 93 (.map (some mo)) (H145.cell 1 rfl rfl) <| wv 94 (pt b140 0) <| zw1 95 (vi ((TS.getD k tb0).i)) (H145.cell 4 rfl rfl) <| wv 96 (.tuple #[(.agg ⟨(Zaq ((Zv M ((TS.getD k tb0).i)).getD Z1t))⟩), (.bool ((Zv M ((TS.getD k tb0).i)).isSome))]) ?_ (hr := Z8J (kt := 3) (et := 63) (KeyTy.int kr) kr Zed rfl ((TS.getD k tb0).i) rfl (H145.roMap 0 rfl hmo (fun h => h)) (ZdQ Z9i _ _) rfl)
  refine wv 91 (.tuple #[(.agg ⟨(Zaq ((Zv M ((TS.getD k tb0).i)).getD Z1t))⟩), (.bool ((Zv M ((TS.getD k tb0).i)).isSome))]) <| wv 97 (.agg ⟨(Zaq ((Zv M ((TS.getD k tb0).i)).getD Z1t))⟩) <| wv 98 (.bool ((Zv M ((TS.getD k tb0).i)).isSome)) <| zy <| zda (kVaP_9) H145 fun b148 w149 H150 => ?_
  refine kk <| zy <| Z1S (Zaq ((Zv M ((TS.getD k tb0).i)).getD Z1t)) H150 5 fun w152 H153 => ?_
  refine kk <| wv 13 (.bool ((Zv M ((TS.getD k tb0).i)).isSome)) <| znt <| Z9 <| zqs H153 ?_
  refine qv 99 (vi k) <| qv 100 (.bool (decide ((k : Int) > 0))) <| qv 101 (.bool (decide ((k : Int) > 0))) ?_
  refine ziq 101 (fun b155 g156 => ?_) fun b155 g194 => ?_
  ·refine qy 2 101 true 102 (pt b140 0) <| qy 2 101 true 103 (vi ((TS.getD k tb0).i)) ?_ (hr := fun _ H' => (zl1 (H'.cell 4 rfl rfl)))
   refine qy 2 101 true 104 (pt b6 4) <| qy 2 101 true 105 (.slice ta TS.length tc) ?_ (hr := fun _ H' => (zl1 (H'.cell 2 rfl rfl)))
   refine qy 2 101 true 106 (vi k) <| qy 2 101 true 107 (vi ((k : Int) - 1)) ?_ (hr := fun _ H' => (Z0A (z := (k : Int) - 1) kr (IntWalk.i64_in _ om)))
   obtain ⟨g158, o159, c160, e161, R162⟩ := SliceOf.atD hTS tb0 (show ((k : Int) - 1).toNat < TS.length by omega)
   refine qy 2 101 true 108 (.pointer (some ⟨g158, o159 + ((k : Int) - 1).toNat * 2, none⟩)) ?_ (hr := fun _ H' => (Z8 (E := 89) kr kr kn rfl e161 rfl om om))
   refine qy 2 101 true 109 (.pointer (some ⟨g158, o159 + ((k : Int) - 1).toNat * 2, none⟩)) <| qy 2 101 true 110 (vi ((TS.getD ((k : Int) - 1).toNat tb0).i)) ?_ (hr := fun _ H' => (zl1 (H'.cellR 0 rfl (Z0f R162 0 kr (show o159 + ((k : Int) - 1).toNat * 2 = o159 + ((k : Int) - 1).toNat * 2 + 0 by omega)) (fun h => h))))
   refine qy 2 101 true 111 (.bool (decide (((TS.getD k tb0).i) ≤ ((TS.getD ((k : Int) - 1).toNat tb0).i)))) <| qv 112 (.bool (decide (((TS.getD k tb0).i) ≤ ((TS.getD ((k : Int) - 1).toNat tb0).i)))) <| qv 113 (.bool (decide (((TS.getD k tb0).i) ≤ ((TS.getD ((k : Int) - 1).toNat tb0).i)))) ?_
   refine ziq 113 (fun b163 g164 => ?_) fun b163 g168 => ?_
   ·iterate 2 refine qn 14 113 false ?_
    refine qv 116 (.bool true) <| qv 117 (.bool true) ?_
    iterate 4 refine qn 18 117 false ?_
    refine qv 122 (.bool true) <| qv 123 (.bool true) ?_
    iterate 6 refine qn 24 123 false ?_
    refine qv 130 (.bool true) <| Z01 fun w166 H167 => ?_
    refine ztn <| Z06 rfl ?_
    refine zsl <| wv 6 (.bool false) <| znt <| Zk <| Zf <| Z4 <| Zs <| Zf <| Z4 <| ze1 (.bool false) ?_
    have e1 : ((k : Int) - 1).toNat = k - 1 := by omega
    have ho : Z3M F L M OS TS k = false := by unfold Z3M; rw [← e1]; rw [← hhv2]; simp only [b131, b155, b163, bls]
    have hbad := ZP (show k < TS.length by omega) ho
    exact ⟨by simp only [Z0v, hbad, Bool.and_false], H167.upd 0 rfl [] ne⟩
   refine qy 14 113 false 114 (.bool ((Zv M ((TS.getD k tb0).i)).isSome)) <| qy 14 113 false 115 (.bool (!((Zv M ((TS.getD k tb0).i)).isSome))) <| qv 116 (.bool (!((Zv M ((TS.getD k tb0).i)).isSome))) <| qv 117 (.bool (!((Zv M ((TS.getD k tb0).i)).isSome))) ?_
   refine (ZY (!((Zv M ((TS.getD k tb0).i)).isSome))).elim (fun b170 => ?_) (fun b170 => ?_)
   ·have g171 := Z7 b170
    refine Z09 117 (.bool true) (congrArg Value.bool b170) ?_
    iterate 4 refine qn 18 117 false ?_
    refine qv 122 (.bool true) <| qv 123 (.bool true) ?_
    iterate 6 refine qn 24 123 false ?_
    refine qv 130 (.bool true) <| Z01 fun w173 H174 => ?_
    refine ztn <| Z06 rfl ?_
    refine zsl <| wv 6 (.bool false) <| znt <| Zk <| Zf <| Z4 <| Zs <| Zf <| Z4 <| ze1 (.bool false) ?_
    have n175 := Z7 b170
    have e1 : ((k : Int) - 1).toNat = k - 1 := by omega
    have ho : Z3M F L M OS TS k = false := by unfold Z3M; rw [← e1]; rw [← hhv2]; simp only [b131, b155, b163, n175, bls]
    have hbad := ZP (show k < TS.length by omega) ho
    exact ⟨by simp only [Z0v, hbad, Bool.and_false], H174.upd 0 rfl [] ne⟩
   have g176 := Z2 b170
   refine Z09 117 (.bool false) (congrArg Value.bool b170) ?_
   refine qy 18 117 false 118 (.map (some b55)) <| qy 18 117 false 119 (pt b140 0) <| qy 18 117 false 120 (vi ((TS.getD k tb0).i)) ?_ (hr := fun _ H' => (zl1 (H'.cell 4 rfl rfl)))
   refine qy 18 117 false 121 (.bool ((Zv HV ((TS.getD k tb0).i)).getD false)) ?_ (hr := fun _ H' => (Z44 (kt := 3) (et := 4) (KeyTy.int kr) kr (fun w => by kernel_rfl) rfl ((TS.getD k tb0).i) rfl (H'.at 3 rfl) (ZdQ Value.bool _ _)))
   refine qv 122 (.bool ((Zv HV ((TS.getD k tb0).i)).getD false)) <| qv 123 (.bool ((Zv HV ((TS.getD k tb0).i)).getD false)) ?_
   refine (ZY ((Zv HV ((TS.getD k tb0).i)).getD false)).elim (fun b178 => ?_) (fun b178 => ?_)
   ·refine Z09 123 (.bool true) (congrArg Value.bool b178) ?_
    iterate 6 refine qn 24 123 false ?_
    refine qv 130 (.bool true) <| Z01 fun w179 H180 => ?_
    refine ztn <| Z06 rfl ?_
    refine zsl <| wv 6 (.bool false) <| znt <| Zk <| Zf <| Z4 <| Zs <| Zf <| Z4 <| ze1 (.bool false) ?_
    have n181 := Z2 b170
    have e1 : ((k : Int) - 1).toNat = k - 1 := by omega
    have ho : Z3M F L M OS TS k = false := by unfold Z3M; rw [← e1]; rw [← hhv2]; simp only [b131, b155, b163, n181, b178, bls]
    have hbad := ZP (show k < TS.length by omega) ho
    exact ⟨by simp only [Z0v, hbad, Bool.and_false], H180.upd 0 rfl [] ne⟩
   refine Z09 123 (.bool false) (congrArg Value.bool b178) ?_
   refine qy 24 123 false 124 (pt b2 0) <| qy 24 123 false 125 (.agg ⟨(Z4L F c)⟩) ?_ (hr := fun _ H' => (zlN (vs := (Z4L F c)) (H'.at 1 rfl)))
   refine qy 24 123 false 126 (pt b 0) <| qy 24 123 false 127 (.agg ⟨(Z6H (TS.getD k tb0) ((TS.getD k tb0).D.length))⟩) ?_ (hr := fun _ H' => (zlN (vs := (Z6H (TS.getD k tb0) ((TS.getD k tb0).D.length))) (H'.at 4 rfl)))
   refine Z0r (Z05 24 123 false rfl kr rfl kr) (d := 128) (v := (.bool (Z0j F L (TS.getD k tb0).i (TS.getD k tb0).D))) rfl (fun _ _ => by kernel_rfl) (fun w' H' => (Z2M w' F c om b mb L (H'.roCk 0 rfl hb (fun _ _ h => h)) (H'.roMap 0 rfl hm (fun h => h)) (TS.getD k tb0).i (TS.getD k tb0).da (TS.getD k tb0).dc (TS.getD k tb0).D (ListAt.now H' 0 rfl (hTk k om).D) (hTk k om).ok (hTk k om).len).mono fun _ _ h => ⟨h.1, H'.keepU h.2⟩) ?_
   refine qy 24 123 false 129 (.bool (!(Z0j F L (TS.getD k tb0).i (TS.getD k tb0).D))) <| qv 130 (.bool (!(Z0j F L (TS.getD k tb0).i (TS.getD k tb0).D))) <| Z01 fun w182 H183 => ?_
   apply ztn
   refine (ZY (!(Z0j F L (TS.getD k tb0).i (TS.getD k tb0).D))).elim (fun b184 => ?_) (fun b184 => ?_)
   ·have g185 := Z7 b184
    refine Z48 _ b184 ?_
    refine zsl <| wv 6 (.bool false) <| znt <| Zk <| Zf <| Z4 <| Zs <| Zf <| Z4 <| ze1 (.bool false) ?_
    have n187 := Z2 b170
    have n188 := Z7 b184
    have e1 : ((k : Int) - 1).toNat = k - 1 := by omega
    have ho : Z3M F L M OS TS k = false := by unfold Z3M; rw [← e1]; rw [← hhv2]; simp only [b131, b155, b163, n187, b178, n188, bls]
    have hbad := ZP (show k < TS.length by omega) ho
    exact ⟨by simp only [Z0v, hbad, Bool.and_false], H183.upd 0 rfl [] ne⟩
   have g189 := Z2 b184
   refine Z3L _ b184 ?_
   refine Zp <| Z6 <| ztn <| ZG <| zwi 131 ((k : Int) + 1) <| wv 86 (vi ((k : Int) + 1)) <| ZL ?_
   have n191 := Z2 b170
   have n192 := Z2 b184
   have e1 : ((k : Int) - 1).toNat = k - 1 := by omega
   have ho : Z3M F L M OS TS k = true := by unfold Z3M; rw [← e1]; rw [← hhv2]; simp only [b131, b155, b163, n191, b178, n192, bls]
   have H193 := H183.pk [0, 1, 2, 3]
   refine Za ?_ _ ⟨(k + 1), rfl, om, (fun j hj => by rcases Nat.lt_or_ge j k with h | h; exact hallk j h; rw [show j = k by omega]; exact ho), H193, rfl⟩ om
   exact zs
  iterate 10 refine qn 2 101 true ?_
  refine qv 112 (.bool false) <| qv 113 (.bool false) <| qy 14 113 false 114 (.bool ((Zv M ((TS.getD k tb0).i)).isSome)) <| qy 14 113 false 115 (.bool (!((Zv M ((TS.getD k tb0).i)).isSome))) <| qv 116 (.bool (!((Zv M ((TS.getD k tb0).i)).isSome))) <| qv 117 (.bool (!((Zv M ((TS.getD k tb0).i)).isSome))) ?_
  refine (ZY (!((Zv M ((TS.getD k tb0).i)).isSome))).elim (fun b196 => ?_) (fun b196 => ?_)
  ·have g197 := Z7 b196
   refine Z09 117 (.bool true) (congrArg Value.bool b196) ?_
   iterate 4 refine qn 18 117 false ?_
   refine qv 122 (.bool true) <| qv 123 (.bool true) ?_
   iterate 6 refine qn 24 123 false ?_
   refine qv 130 (.bool true) <| Z01 fun w199 H200 => ?_
   refine ztn <| Z06 rfl ?_
   refine zsl <| wv 6 (.bool false) <| znt <| Zk <| Zf <| Z4 <| Zs <| Zf <| Z4 <| ze1 (.bool false) ?_
   have n201 := Z7 b196
   have e1 : ((k : Int) - 1).toNat = k - 1 := by omega
   have ho : Z3M F L M OS TS k = false := by unfold Z3M; rw [← e1]; rw [← hhv2]; simp only [b131, b155, n201, bls]
   have hbad := ZP (show k < TS.length by omega) ho
   exact ⟨by simp only [Z0v, hbad, Bool.and_false], H200.upd 0 rfl [] ne⟩
  have g202 := Z2 b196
  refine Z09 117 (.bool false) (congrArg Value.bool b196) ?_
  refine qy 18 117 false 118 (.map (some b55)) <| qy 18 117 false 119 (pt b140 0) <| qy 18 117 false 120 (vi ((TS.getD k tb0).i)) ?_ (hr := fun _ H' => (zl1 (H'.cell 4 rfl rfl)))
  refine qy 18 117 false 121 (.bool ((Zv HV ((TS.getD k tb0).i)).getD false)) ?_ (hr := fun _ H' => (Z44 (kt := 3) (et := 4) (KeyTy.int kr) kr (fun w => by kernel_rfl) rfl ((TS.getD k tb0).i) rfl (H'.at 3 rfl) (ZdQ Value.bool _ _)))
  refine qv 122 (.bool ((Zv HV ((TS.getD k tb0).i)).getD false)) <| qv 123 (.bool ((Zv HV ((TS.getD k tb0).i)).getD false)) ?_
  refine (ZY ((Zv HV ((TS.getD k tb0).i)).getD false)).elim (fun b204 => ?_) (fun b204 => ?_)
  ·refine Z09 123 (.bool true) (congrArg Value.bool b204) ?_
   iterate 6 refine qn 24 123 false ?_
   refine qv 130 (.bool true) <| Z01 fun w205 H206 => ?_
   refine ztn <| Z06 rfl ?_
   refine zsl <| wv 6 (.bool false) <| znt <| Zk <| Zf <| Z4 <| Zs <| Zf <| Z4 <| ze1 (.bool false) ?_
   have n207 := Z2 b196
   have e1 : ((k : Int) - 1).toNat = k - 1 := by omega
   have ho : Z3M F L M OS TS k = false := by unfold Z3M; rw [← e1]; rw [← hhv2]; simp only [b131, b155, n207, b204, bls]
   have hbad := ZP (show k < TS.length by omega) ho
   exact ⟨by simp only [Z0v, hbad, Bool.and_false], H206.upd 0 rfl [] ne⟩
  refine Z09 123 (.bool false) (congrArg Value.bool b204) ?_
  refine qy 24 123 false 124 (pt b2 0) <| qy 24 123 false 125 (.agg ⟨(Z4L F c)⟩) ?_ (hr := fun _ H' => (zlN (vs := (Z4L F c)) (H'.at 1 rfl)))
  refine qy 24 123 false 126 (pt b 0) <| qy 24 123 false 127 (.agg ⟨(Z6H (TS.getD k tb0) ((TS.getD k tb0).D.length))⟩) ?_ (hr := fun _ H' => (zlN (vs := (Z6H (TS.getD k tb0) ((TS.getD k tb0).D.length))) (H'.at 4 rfl)))
  refine Z0r (Z05 24 123 false rfl kr rfl kr) (d := 128) (v := (.bool (Z0j F L (TS.getD k tb0).i (TS.getD k tb0).D))) rfl (fun _ _ => by kernel_rfl) (fun w' H' => (Z2M w' F c om b mb L (H'.roCk 0 rfl hb (fun _ _ h => h)) (H'.roMap 0 rfl hm (fun h => h)) (TS.getD k tb0).i (TS.getD k tb0).da (TS.getD k tb0).dc (TS.getD k tb0).D (ListAt.now H' 0 rfl (hTk k om).D) (hTk k om).ok (hTk k om).len).mono fun _ _ h => ⟨h.1, H'.keepU h.2⟩) ?_
  refine qy 24 123 false 129 (.bool (!(Z0j F L (TS.getD k tb0).i (TS.getD k tb0).D))) <| qv 130 (.bool (!(Z0j F L (TS.getD k tb0).i (TS.getD k tb0).D))) <| Z01 fun w208 H209 => ?_
  apply ztn
  refine (ZY (!(Z0j F L (TS.getD k tb0).i (TS.getD k tb0).D))).elim (fun b210 => ?_) (fun b210 => ?_)
  ·have g211 := Z7 b210
   refine Z48 _ b210 ?_
   refine zsl <| wv 6 (.bool false) <| znt <| Zk <| Zf <| Z4 <| Zs <| Zf <| Z4 <| ze1 (.bool false) ?_
   have n213 := Z2 b196
   have n214 := Z7 b210
   have e1 : ((k : Int) - 1).toNat = k - 1 := by omega
   have ho : Z3M F L M OS TS k = false := by unfold Z3M; rw [← e1]; rw [← hhv2]; simp only [b131, b155, n213, b204, n214, bls]
   have hbad := ZP (show k < TS.length by omega) ho
   exact ⟨by simp only [Z0v, hbad, Bool.and_false], H209.upd 0 rfl [] ne⟩
  have g215 := Z2 b210
  refine Z3L _ b210 ?_
  refine Zp <| Z6 <| ztn <| ZG <| zwi 131 ((k : Int) + 1) <| wv 86 (vi ((k : Int) + 1)) <| ZL ?_
  have n217 := Z2 b196
  have n218 := Z2 b210
  have e1 : ((k : Int) - 1).toNat = k - 1 := by omega
  have ho : Z3M F L M OS TS k = true := by unfold Z3M; rw [← e1]; rw [← hhv2]; simp only [b131, b155, n217, b204, n218, bls]
  have H219 := H209.pk [0, 1, 2, 3]
  refine Za ?_ _ ⟨(k + 1), rfl, om, (fun j hj => by rcases Nat.lt_or_ge j k with h | h; exact hallk j h; rw [show j = k by omega]; exact ho), H219, rfl⟩ om
  exact zs
 refine zxb <| ztn <| zsl <| wv 6 (.bool true) <| znt <| Zk <| ze1 (.bool true) ?_
 have hn0 : k = TS.length := by omega
 subst hn0
 subst hO
 exact ⟨by simp only [Z0v, Z1r halli, Z1r hallk, n58, b19, b25, b31, b37, n59, bls], H128.upd 0 rfl [] ne⟩
end Go.Proofs.YtenihpghfdcpkaaGreat
