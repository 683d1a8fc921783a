/- WHAT IS PROVED: contracts and plain laws of VaP. Conditions: stated with each. -/
import Derived.Test.YtenihpghfdcpkaaGreatPO02
import Derived.Test.YtenihpghfdcpkaaGreatPO05
import Derived.Test.YtenihpghfdcpkaaGreatPO25
import Derived.Test.YtenihpghfdcpkaaGreatPO29
import Derived.Test.YtenihpghfdcpkaaGreatPO30
set_option maxHeartbeats 4000000
set_option maxRecDepth 100000
namespace Go.Proofs.YtenihpghfdcpkaaGreat
open Go.RowKit
abbrev Z4t (p0 : Int) (p1 : Int) (p2 : Int) (p3 : Int) (p4 : Value) (p5 : Nat) : List Value := ([i6 p0, i6 p1, i6 p2, u6 p3, p4, (.map (some p5))] : LV)
abbrev ZfT (p0 : Int) (p1 : Int) (p2 : Option Addr) (p3 : Nat) (p4 : Nat) (p5 : Value) (p6 : Value) : List Value := ([i6 p0, u6 p1, (.slice p2 p3 p4), p5, p6] : LV)
abbrev Z6H (p0 : PrR) (p1 : Nat) : List Value := ([i6 p0.r, i6 p0.e, u6 p0.f, (.slice p0.ca p1 p0.cc), i6 p0.sb, i6 p0.sm] : LV)
abbrev kVaP_3 : List Value := ([i6 0, i6 0, u6 0, (.slice none 0 0), i6 0, i6 0] : LV)
abbrev Z58 (p0 : Int) (p1 : Int) : List Value := ([i6 p0, i6 p1] : LV)
abbrev Z9i (p0 : Int) (p1 : Int) (p2 : Option Addr) (p3 : Nat) (p4 : Nat) (p5 : Option Addr) (p6 : Nat) (p7 : Nat) (p8 : Option Addr) (p9 : Nat) (p10 : Nat) : List Value := ([i6 p0, u6 p1, (.slice p2 p3 p4), (.slice p5 p6 p7), (.slice p8 p9 p10)] : LV)
abbrev Z7d (p0 : OpR) (p1 : Nat) : List Value := ([i6 p0.i, (.slice p0.pa p1 p0.pc)] : LV) ++ hc p0.h
abbrev Z71 (p0 : TbR) (p1 : Nat) : List Value := ([i6 p0.i, (.slice p0.da p1 p0.dc)] : LV)
abbrev Zbr (p0 : Z1q) : List Value := ([i6 p0.cl, i6 p0.sq] : LV) ++ hc p0.h ++ ([u6 p0.t] : LV)
abbrev kVaP_9 : List Value := ([i6 0, i6 0] : LV) ++ hc ZC ++ ([u6 0] : LV)
noncomputable def Z7x (F cn : Int) (L : List Signed) (e t : Int) (PS : List PrR) (i : Nat) : Bool := (!decide ((i : Int) > 0) || !decide ((PS.getD i pr0).r ≤ (PS.getD (i - 1) pr0).r)) && decide ((PS.getD i pr0).e = e) && decide ((PS.getD i pr0).f = t) && Z1R F cn L (PS.getD i pr0)
noncomputable def Z3h (F cn : Int) (L : List Signed) (e t : Int) (PS : List PrR) : Bool := (List.range PS.length).all (Z7x F cn L e t PS) && decide ((PS.length : Int) = 2 * F + 1)
def Zbc (M : List (Int × Z1q)) (OS : List OpR) (i : Nat) : Bool := (!decide ((i : Int) > 0) || !decide ((OS.getD i op0).i ≤ (OS.getD (i - 1) op0).i)) && Z2B M (OS.getD i op0)
def Z7t (F : Int) (L : List Signed) (M : List (Int × Z1q)) (OS : List OpR) (TS : List TbR) (i : Nat) : Bool := (!decide ((i : Int) > 0) || !decide ((TS.getD i tb0).i ≤ (TS.getD (i - 1) tb0).i)) && (ZB M (TS.getD i tb0).i).isSome && !Z9R (fun x : OpR => x.i) OS (TS.getD i tb0).i && Z1c F L (TS.getD i tb0).i (TS.getD i tb0).D
noncomputable def Z1S (F cn E last : Int) (L : List Signed) (M : List (Int × Z1q)) (e t : Int) (PS : List PrR) (OS : List OpR) (TS : List TbR) : Bool := decide (e = E) && !decide (t ≤ last) && !decide (t = 18446744073709551615) && !decide ((OS.length : Int) > 64) && !decide ((TS.length : Int) > 64) && Z3h F cn L e t PS && (List.range OS.length).all (Zbc M OS) && (List.range TS.length).all (Z7t F L M OS TS)
structure PrW (w : World) (p : PrR) : Prop where
 C : ListAt Z0Z 38 w (.slice p.ca p.C.length p.cc) p.C
 B : ∀ i, i < p.C.length → CeB w (p.C.getD i ce0)
 l12 : ∀ i, i < p.C.length → (p.C.getD i ce0).S.length ≤ 12
 len : p.C.length ≤ 64
 lim : p.r ≤ 9223372036854775807 ∧ p.e ≤ 9223372036854775807 ∧ 0 ≤ p.f ∧ p.f < 18446744073709551616
theorem PrW.now {w w0 w' : World} {G : List Ck} {p : PrR} (h : PrW w p) (H : Sat w0 G w') (j : Nat) (hj : G[j]? = some (ZF w fun _ => False)) : PrW w' p := ⟨ListAt.now H j hj h.C, fun i hi => (h.B i hi).keep H j hj, h.l12, h.len, h.lim⟩
structure TbW (w : World) (t : TbR) : Prop where
 D : ListAt Z3b 4 w (.slice t.da t.D.length t.dc) t.D
 ok : ∀ i, i < t.D.length → Zg1 (t.D.getD i Z1U)
 len : t.D.length ≤ 1000000
theorem Z7N {α : Type} (L : List α) (d : α) {i : Nat} (h : i < L.length) : L.take (i + 1) = L.take i ++ [L.getD i d] := by
 rw [List.take_add_one, List.getElem?_eq_getElem h, List.getD_eq_getElem?_getD, List.getElem?_eq_getElem h]; rfl
theorem Zcp (w : World) (F c E last : Int) (hF : 1 ≤ F ∧ F ≤ 1099511627776) (vm : Value) (mo : Nat) (b mb : Nat) (L : List Signed) (hb : (Z0 b 179 [.map (some mb)]).ok w) (hm : MapAt w mb ZZ (Value.int .i64) (Z0c L)) (xe xt : Int) (pa : Option Addr) (pc : Nat) (PS : List PrR) (hPS : ListAt Z0C 6 w (.slice pa PS.length pc) PS) (hlP : PS.length ≤ 1000000) (hPk : ∀ i, i < PS.length → PrW w (PS.getD i pr0)) (vo vt : Value) :
  Calls Tryz.prog 72 #[zp b, (.agg ⟨([i6 F, i6 c, i6 E, u6 last, (vm), (.map (some mo))] : LV)⟩), (.agg ⟨([i6 xe, u6 xt, (.slice pa PS.length pc), (vo), (vt)] : LV)⟩)] w fun e w' => e = .returned (.bool (Z3h F c L xe xt PS)) ∧ Upd [] w w' := by
 have H := Sat.start0 w
 refine Za Tryz.func72 rfl 61 rfl kn ?_
 refine zsl <| zy <| zdb (Z4t F c E last vm mo) H fun b2 w3 H4 => ?_
 refine kk <| zy <| zdb (ZfT xe xt pa PS.length pc vo vt) H4 fun b6 w7 H8 => ?_
 refine kk <| wv 6 (.bool false) <| znt <| Z7 <| zsl <| wv 9 (pt b6 2) <| zw1 10 (.slice pa PS.length pc) (H8.cell 2 rfl rfl) <| wv 11 (vi PS.length) <| wv 12 (vi 0) <| znt ?_
 refine Zc <| Zq ([6, 7, 8] ++ List.range' 12 42) (fun F_ W_ m_ => ∃ (i : Nat), F_ 12 = (vi i) ∧ (i ≤ PS.length) ∧ (∀ j, j < i → Z7x F c L xe xt PS j = true) ∧ Sat w [zR w, Z0 b2 54 (Z4t F c E last vm mo), Z0 b6 47 (ZfT xe xt pa PS.length pc vo vt)] W_ ∧ m_ = PS.length - i) _ ⟨0, (show ((vi 0) : Value) = _ by first | rfl | go_num), (Nat.zero_le _), (fun _ h => absurd h (Nat.not_lt_zero _)), H8, rfl⟩ ?_
 rintro g9 w10 _ ⟨i, v12, hi, halli, H11, rfl⟩
 refine Ze 12 _ v12 ?_
 refine zsl <| wv 13 (.bool (decide ((i : Int) < PS.length))) <| znt <| Z7 ?_
 refine zid (fun b14 g15 => ?_) fun b14 g125 => ?_
 ·refine Zm <| ztn <| Z7 <| Zc <| zsl <| wv 14 (vi i) ?_
  obtain ⟨g17, o18, c19, e20, R21⟩ := SliceOf.atD hPS pr0 (show i < PS.length by omega)
  refine wv 15 (.pointer (some ⟨g17, o18 + ((i : Int)).toNat * 6, none⟩)) ?_ (hr := Zd (E := 71) kr kr kn rfl e20 rfl om om)
  refine wv 16 (.agg ⟨(Z6H (PS.getD i pr0) ((PS.getD i pr0).C.length))⟩) ?_ (hr := ZE (vs := (Z6H (PS.getD i pr0) ((PS.getD i pr0).C.length))) rfl kr kr kn (H11.runR 0 rfl (Z0k R21 0 kr (show o18 + ((i : Int)).toNat * 6 = o18 + i * 6 + 0 by omega)) (fun h => h)))
  refine zy <| zda (kVaP_3) H11 fun b23 w24 H25 => ?_
  refine kk <| wv 7 (vi i) <| zy <| Z1p (Z6H (PS.getD i pr0) ((PS.getD i pr0).C.length)) H25 3 fun w27 H28 => ?_
  refine kk <| znt <| Z7 <| zqs H28 ?_
  refine qv 17 (vi i) <| qv 18 (.bool (decide ((i : Int) > 0))) <| qv 19 (.bool (decide ((i : Int) > 0))) ?_
  refine ziq 19 (fun b30 g31 => ?_) fun b30 g84 => ?_
  ·refine qy 2 19 true 20 (pt b23 0) <| qy 2 19 true 21 (vi ((PS.getD i pr0).r)) ?_ (hr := fun _ H' => (zl1 (H'.cell 3 rfl rfl)))
   refine qy 2 19 true 22 (pt b6 2) <| qy 2 19 true 23 (.slice pa PS.length pc) ?_ (hr := fun _ H' => (zl1 (H'.cell 2 rfl rfl)))
   refine qy 2 19 true 24 (vi i) <| qy 2 19 true 25 (vi ((i : Int) - 1)) ?_ (hr := fun _ H' => (Z0q (z := (i : Int) - 1) kr (IntWalk.i64_in _ om)))
   obtain ⟨g33, o34, c35, e36, R37⟩ := SliceOf.atD hPS pr0 (show ((i : Int) - 1).toNat < PS.length by omega)
   refine qy 2 19 true 26 (.pointer (some ⟨g33, o34 + ((i : Int) - 1).toNat * 6, none⟩)) ?_ (hr := fun _ H' => (Zd (E := 71) kr kr kn rfl e36 rfl om om))
   refine qy 2 19 true 27 (.pointer (some ⟨g33, o34 + ((i : Int) - 1).toNat * 6, none⟩)) <| qy 2 19 true 28 (vi ((PS.getD ((i : Int) - 1).toNat pr0).r)) ?_ (hr := fun _ H' => (zl1 (H'.cellR 0 rfl (Z0o R37 0 kr (show o34 + ((i : Int) - 1).toNat * 6 = o34 + ((i : Int) - 1).toNat * 6 + 0 by omega)) (fun h => h))))
   refine qy 2 19 true 29 (.bool (decide (((PS.getD i pr0).r) ≤ ((PS.getD ((i : Int) - 1).toNat pr0).r)))) <| qv 30 (.bool (decide (((PS.getD i pr0).r) ≤ ((PS.getD ((i : Int) - 1).toNat pr0).r)))) <| qv 31 (.bool (decide (((PS.getD i pr0).r) ≤ ((PS.getD ((i : Int) - 1).toNat pr0).r)))) ?_
   refine ziq 31 (fun b38 g39 => ?_) fun b38 g43 => ?_
   ·iterate 5 refine qn 14 31 false ?_
    refine qv 37 (.bool true) <| qv 38 (.bool true) ?_
    iterate 5 refine qn 21 38 false ?_
    refine qv 44 (.bool true) <| qv 45 (.bool true) ?_
    iterate 6 refine qn 28 45 false ?_
    refine qv 52 (.bool true) <| Z09 fun w41 H42 => ?_
    refine ztn <| Z0n rfl ?_
    refine zsl <| wv 6 (.bool false) <| znt <| Zk <| Zu <| Zb <| ZT <| Zu <| Zb <| ze1 (.bool false) ?_
    have e1 : ((i : Int) - 1).toNat = i - 1 := by omega
    have ho : Z7x F c L xe xt PS i = false := by unfold Z7x; rw [← e1]; simp only [b14, b30, b38, bls]
    have hbad := Z0h (show i < PS.length by omega) ho
    exact ⟨by simp only [Z3h, hbad, Bool.false_and], H42.upd 0 rfl [] ne⟩
   refine qy 14 31 false 32 (pt b23 1) <| qy 14 31 false 33 (vi ((PS.getD i pr0).e)) ?_ (hr := fun _ H' => (zl1 (H'.cell 3 rfl rfl)))
   refine qy 14 31 false 34 (pt b6 0) <| qy 14 31 false 35 (vi xe) ?_ (hr := fun _ H' => (zl1 (H'.cell 2 rfl rfl)))
   refine qy 14 31 false 36 (.bool (!(decide (((PS.getD i pr0).e) = xe)))) <| qv 37 (.bool (!(decide (((PS.getD i pr0).e) = xe)))) <| qv 38 (.bool (!(decide (((PS.getD i pr0).e) = xe)))) ?_
   refine (ZS (!(decide (((PS.getD i pr0).e) = xe)))).elim (fun b45 => ?_) (fun b45 => ?_)
   ·have g46 := Zf b45
    have g47 := of_decide_eq_false g46
    refine Z0t 38 (.bool true) (congrArg Value.bool b45) ?_
    iterate 5 refine qn 21 38 false ?_
    refine qv 44 (.bool true) <| qv 45 (.bool true) ?_
    iterate 6 refine qn 28 45 false ?_
    refine qv 52 (.bool true) <| Z09 fun w50 H51 => ?_
    refine ztn <| Z0n rfl ?_
    refine zsl <| wv 6 (.bool false) <| znt <| Zk <| Zu <| Zb <| ZT <| Zu <| Zb <| ze1 (.bool false) ?_
    have n52 := Zf b45
    have e1 : ((i : Int) - 1).toNat = i - 1 := by omega
    have ho : Z7x F c L xe xt PS i = false := by unfold Z7x; rw [← e1]; simp only [b14, b30, b38, n52, bls]
    have hbad := Z0h (show i < PS.length by omega) ho
    exact ⟨by simp only [Z3h, hbad, Bool.false_and], H51.upd 0 rfl [] ne⟩
   have g53 := Z3 b45
   have g54 := of_decide_eq_true g53
   refine Z0t 38 (.bool false) (congrArg Value.bool b45) ?_
   refine qy 21 38 false 39 (pt b23 2) <| qy 21 38 false 40 (vu ((PS.getD i pr0).f)) ?_ (hr := fun _ H' => (zl1 (H'.cell 3 rfl rfl)))
   refine qy 21 38 false 41 (pt b6 1) <| qy 21 38 false 42 (vu xt) ?_ (hr := fun _ H' => (zl1 (H'.cell 2 rfl rfl)))
   refine qy 21 38 false 43 (.bool (!(decide (((PS.getD i pr0).f) = xt)))) <| qv 44 (.bool (!(decide (((PS.getD i pr0).f) = xt)))) <| qv 45 (.bool (!(decide (((PS.getD i pr0).f) = xt)))) ?_
   refine (ZS (!(decide (((PS.getD i pr0).f) = xt)))).elim (fun b57 => ?_) (fun b57 => ?_)
   ·have g58 := Zf b57
    have g59 := of_decide_eq_false g58
    refine Z0t 45 (.bool true) (congrArg Value.bool b57) ?_
    iterate 6 refine qn 28 45 false ?_
    refine qv 52 (.bool true) <| Z09 fun w62 H63 => ?_
    refine ztn <| Z0n rfl ?_
    refine zsl <| wv 6 (.bool false) <| znt <| Zk <| Zu <| Zb <| ZT <| Zu <| Zb <| ze1 (.bool false) ?_
    have n64 := Z3 b45
    have n65 := Zf b57
    have e1 : ((i : Int) - 1).toNat = i - 1 := by omega
    have ho : Z7x F c L xe xt PS i = false := by unfold Z7x; rw [← e1]; simp only [b14, b30, b38, n64, n65, bls]
    have hbad := Z0h (show i < PS.length by omega) ho
    exact ⟨by simp only [Z3h, hbad, Bool.false_and], H63.upd 0 rfl [] ne⟩
   have g66 := Z3 b57
   have g67 := of_decide_eq_true g66
   refine Z0t 45 (.bool false) (congrArg Value.bool b57) ?_
   refine qy 28 45 false 46 (pt b2 0) <| qy 28 45 false 47 (.agg ⟨(Z58 F c)⟩) ?_ (hr := fun _ H' => (zlN (vs := (Z58 F c)) (H'.at 1 rfl)))
   refine qy 28 45 false 48 (pt b 0) <| qy 28 45 false 49 (.agg ⟨(Z6H (PS.getD i pr0) ((PS.getD i pr0).C.length))⟩) ?_ (hr := fun _ H' => (zlN (vs := (Z6H (PS.getD i pr0) ((PS.getD i pr0).C.length))) (H'.at 3 rfl)))
   refine Z0N (Z0a 28 45 false rfl kr rfl kr) (d := 50) (v := (.bool (Z1R F c L (PS.getD i pr0)))) rfl (fun _ _ => by kernel_rfl) (fun w' H' => (Z6I w' F c om b mb L (H'.roCk 0 rfl hb (fun _ _ h => h)) (H'.roMap 0 rfl hm (fun h => h)) (PS.getD i pr0) ((hPk i om).now H' 0 rfl).C ((hPk i om).now H' 0 rfl).B ((hPk i om).now H' 0 rfl).l12 ((hPk i om).now H' 0 rfl).len ((hPk i om).now H' 0 rfl).lim).mono fun _ _ h => ⟨h.1, H'.keepU h.2⟩) ?_
   refine qy 28 45 false 51 (.bool (!(Z1R F c L (PS.getD i pr0)))) <| qv 52 (.bool (!(Z1R F c L (PS.getD i pr0)))) <| Z09 fun w70 H71 => ?_
   apply ztn
   refine (ZS (!(Z1R F c L (PS.getD i pr0)))).elim (fun b72 => ?_) (fun b72 => ?_)
   ·have g73 := Zf b72
    refine Z4z _ b72 ?_
    refine zsl <| wv 6 (.bool false) <| znt <| Zk <| Zu <| Zb <| ZT <| Zu <| Zb <| ze1 (.bool false) ?_
    have n75 := Z3 b45
    have n76 := Z3 b57
    have n77 := Zf b72
    have e1 : ((i : Int) - 1).toNat = i - 1 := by omega
    have ho : Z7x F c L xe xt PS i = false := by unfold Z7x; rw [← e1]; simp only [b14, b30, b38, n75, n76, n77, bls]
    have hbad := Z0h (show i < PS.length by omega) ho
    exact ⟨by simp only [Z3h, hbad, Bool.false_and], H71.upd 0 rfl [] ne⟩
   have g78 := Z3 b72
   refine Z46 _ b72 ?_
   refine Zm <| Z6 <| ztn <| Zl <| zwi 53 ((i : Int) + 1) <| wv 12 (vi ((i : Int) + 1)) <| Zn ?_
   have n80 := Z3 b45
   have n81 := Z3 b57
   have n82 := Z3 b72
   have e1 : ((i : Int) - 1).toNat = i - 1 := by omega
   have ho : Z7x F c L xe xt PS i = true := by unfold Z7x; rw [← e1]; simp only [b14, b30, b38, n80, n81, n82, bls]
   have H83 := H71.pk [0, 1, 2]
   refine Z5 ?_ _ ⟨(i + 1), rfl, om, (fun j hj => by rcases Nat.lt_or_ge j i with h | h; exact halli j h; rw [show j = i by omega]; exact ho), H83, rfl⟩ om
   exact zs
  iterate 10 refine qn 2 19 true ?_
  refine qv 30 (.bool false) <| qv 31 (.bool false) <| qy 14 31 false 32 (pt b23 1) <| qy 14 31 false 33 (vi ((PS.getD i pr0).e)) ?_ (hr := fun _ H' => (zl1 (H'.cell 3 rfl rfl)))
  refine qy 14 31 false 34 (pt b6 0) <| qy 14 31 false 35 (vi xe) ?_ (hr := fun _ H' => (zl1 (H'.cell 2 rfl rfl)))
  refine qy 14 31 false 36 (.bool (!(decide (((PS.getD i pr0).e) = xe)))) <| qv 37 (.bool (!(decide (((PS.getD i pr0).e) = xe)))) <| qv 38 (.bool (!(decide (((PS.getD i pr0).e) = xe)))) ?_
  refine (ZS (!(decide (((PS.getD i pr0).e) = xe)))).elim (fun b86 => ?_) (fun b86 => ?_)
  ·have g87 := Zf b86
   have g88 := of_decide_eq_false g87
   refine Z0t 38 (.bool true) (congrArg Value.bool b86) ?_
   iterate 5 refine qn 21 38 false ?_
   refine qv 44 (.bool true) <| qv 45 (.bool true) ?_
   iterate 6 refine qn 28 45 false ?_
   refine qv 52 (.bool true) <| Z09 fun w91 H92 => ?_
   refine ztn <| Z0n rfl ?_
   refine zsl <| wv 6 (.bool false) <| znt <| Zk <| Zu <| Zb <| ZT <| Zu <| Zb <| ze1 (.bool false) ?_
   have n93 := Zf b86
   have e1 : ((i : Int) - 1).toNat = i - 1 := by omega
   have ho : Z7x F c L xe xt PS i = false := by unfold Z7x; rw [← e1]; simp only [b14, b30, n93, bls]
   have hbad := Z0h (show i < PS.length by omega) ho
   exact ⟨by simp only [Z3h, hbad, Bool.false_and], H92.upd 0 rfl [] ne⟩
  have g94 := Z3 b86
  have g95 := of_decide_eq_true g94
  refine Z0t 38 (.bool false) (congrArg Value.bool b86) ?_
  refine qy 21 38 false 39 (pt b23 2) <| qy 21 38 false 40 (vu ((PS.getD i pr0).f)) ?_ (hr := fun _ H' => (zl1 (H'.cell 3 rfl rfl)))
  refine qy 21 38 false 41 (pt b6 1) <| qy 21 38 false 42 (vu xt) ?_ (hr := fun _ H' => (zl1 (H'.cell 2 rfl rfl)))
  refine qy 21 38 false 43 (.bool (!(decide (((PS.getD i pr0).f) = xt)))) <| qv 44 (.bool (!(decide (((PS.getD i pr0).f) = xt)))) <| qv 45 (.bool (!(decide (((PS.getD i pr0).f) = xt)))) ?_
  refine (ZS (!(decide (((PS.getD i pr0).f) = xt)))).elim (fun b98 => ?_) (fun b98 => ?_)
  ·have g99 := Zf b98
   have g100 := of_decide_eq_false g99
   refine Z0t 45 (.bool true) (congrArg Value.bool b98) ?_
   iterate 6 refine qn 28 45 false ?_
   refine qv 52 (.bool true) <| Z09 fun w103 H104 => ?_
   refine ztn <| Z0n rfl ?_
   refine zsl <| wv 6 (.bool false) <| znt <| Zk <| Zu <| Zb <| ZT <| Zu <| Zb <| ze1 (.bool false) ?_
   have n105 := Z3 b86
   have n106 := Zf b98
   have e1 : ((i : Int) - 1).toNat = i - 1 := by omega
   have ho : Z7x F c L xe xt PS i = false := by unfold Z7x; rw [← e1]; simp only [b14, b30, n105, n106, bls]
   have hbad := Z0h (show i < PS.length by omega) ho
   exact ⟨by simp only [Z3h, hbad, Bool.false_and], H104.upd 0 rfl [] ne⟩
  have g107 := Z3 b98
  have g108 := of_decide_eq_true g107
  refine Z0t 45 (.bool false) (congrArg Value.bool b98) ?_
  refine qy 28 45 false 46 (pt b2 0) <| qy 28 45 false 47 (.agg ⟨(Z58 F c)⟩) ?_ (hr := fun _ H' => (zlN (vs := (Z58 F c)) (H'.at 1 rfl)))
  refine qy 28 45 false 48 (pt b 0) <| qy 28 45 false 49 (.agg ⟨(Z6H (PS.getD i pr0) ((PS.getD i pr0).C.length))⟩) ?_ (hr := fun _ H' => (zlN (vs := (Z6H (PS.getD i pr0) ((PS.getD i pr0).C.length))) (H'.at 3 rfl)))
  refine Z0N (Z0a 28 45 false rfl kr rfl kr) (d := 50) (v := (.bool (Z1R F c L (PS.getD i pr0)))) rfl (fun _ _ => by kernel_rfl) (fun w' H' => (Z6I w' F c om b mb L (H'.roCk 0 rfl hb (fun _ _ h => h)) (H'.roMap 0 rfl hm (fun h => h)) (PS.getD i pr0) ((hPk i om).now H' 0 rfl).C ((hPk i om).now H' 0 rfl).B ((hPk i om).now H' 0 rfl).l12 ((hPk i om).now H' 0 rfl).len ((hPk i om).now H' 0 rfl).lim).mono fun _ _ h => ⟨h.1, H'.keepU h.2⟩) ?_
  refine qy 28 45 false 51 (.bool (!(Z1R F c L (PS.getD i pr0)))) <| qv 52 (.bool (!(Z1R F c L (PS.getD i pr0)))) <| Z09 fun w111 H112 => ?_
  apply ztn
  refine (ZS (!(Z1R F c L (PS.getD i pr0)))).elim (fun b113 => ?_) (fun b113 => ?_)
  ·have g114 := Zf b113
   refine Z4z _ b113 ?_
   refine zsl <| wv 6 (.bool false) <| znt <| Zk <| Zu <| Zb <| ZT <| Zu <| Zb <| ze1 (.bool false) ?_
   have n116 := Z3 b86
   have n117 := Z3 b98
   have n118 := Zf b113
   have e1 : ((i : Int) - 1).toNat = i - 1 := by omega
   have ho : Z7x F c L xe xt PS i = false := by unfold Z7x; rw [← e1]; simp only [b14, b30, n116, n117, n118, bls]
   have hbad := Z0h (show i < PS.length by omega) ho
   exact ⟨by simp only [Z3h, hbad, Bool.false_and], H112.upd 0 rfl [] ne⟩
  have g119 := Z3 b113
  refine Z46 _ b113 ?_
  refine Zm <| Z6 <| ztn <| Zl <| zwi 53 ((i : Int) + 1) <| wv 12 (vi ((i : Int) + 1)) <| Zn ?_
  have n121 := Z3 b86
  have n122 := Z3 b98
  have n123 := Z3 b113
  have e1 : ((i : Int) - 1).toNat = i - 1 := by omega
  have ho : Z7x F c L xe xt PS i = true := by unfold Z7x; rw [← e1]; simp only [b14, b30, n121, n122, n123, bls]
  have H124 := H112.pk [0, 1, 2]
  refine Z5 ?_ _ ⟨(i + 1), rfl, om, (fun j hj => by rcases Nat.lt_or_ge j i with h | h; exact halli j h; rw [show j = i by omega]; exact ho), H124, rfl⟩ om
  exact zs
 refine zxb <| ztn <| Z7 <| zqs H11 ?_
 refine qv 54 (pt b6 2) <| qv 55 (.slice pa PS.length pc) ?_ (hr := fun _ H' => (zl1 (H'.cell 2 rfl rfl)))
 refine Z8z (Z8 rfl) (d := 56) (v := (vi PS.length)) rfl (fun _ H' => kr) ?_
 refine qv 57 (pt b2 0) <| qv 58 (.agg ⟨(Z58 F c)⟩) ?_ (hr := fun _ H' => (zlN (vs := (Z58 F c)) (H'.at 1 rfl)))
 refine Z0N (Z8 rfl) (d := 59) (v := (vi (2 * F + 1))) rfl (fun _ _ => by kernel_rfl) (fun w' H' => (Z9k w' F c om).mono fun _ _ h => ⟨h.1, H'.keepU h.2⟩) ?_
 refine qv 60 (.bool (decide ((PS.length : Int) = (2 * F + 1)))) <| qv 6 (.bool (decide ((PS.length : Int) = (2 * F + 1)))) <| Z09 fun w127 H128 => ?_
 refine ztn <| Zk <| ze1 (.bool (decide ((PS.length : Int) = (2 * F + 1)))) ?_
 have hn0 : i = PS.length := by omega
 subst hn0
 exact ⟨by simp only [Z3h, Z1B halli, Bool.true_and], H128.upd 0 rfl [] ne⟩
theorem Zai (w : World) (F c E last : Int) (hF : 1 ≤ F ∧ F ≤ 1099511627776) (vm : Value) (mo : Nat) (M : List (Int × Z1q)) (hmo : MapAt w mo (Value.int .i64) Z2y M) (hM : OpenOk M) (b mb : Nat) (L : List Signed) (hb : (Z0 b 179 [.map (some mb)]).ok w) (hm : MapAt w mb ZZ (Value.int .i64) (Z0c L)) (xe xt : Int) (pa : Option Addr) (pc : Nat) (PS : List PrR) (hPS : ListAt Z0C 6 w (.slice pa PS.length pc) PS) (hlP : PS.length ≤ 1000000) (hPk : ∀ i, i < PS.length → PrW w (PS.getD i pr0)) (oa : Option Addr) (oc : Nat) (OS : List OpR) (hOS : ListAt Z0Y 34 w (.slice oa OS.length oc) OS) (hlO : OS.length ≤ 1000000) (hoL : ∀ i, i < OS.length → ListAt Zr 1 w (.slice (OS.getD i op0).pa (OS.getD i op0).P.length (OS.getD i op0).pc) (OS.getD i op0).P) (hlo : ∀ i, i < OS.length → (OS.getD i op0).P.length ≤ 1000) (ta : Option Addr) (tc : Nat) (TS : List TbR) (hTS : ListAt Z0U 2 w (.slice ta TS.length tc) TS) (hlT : TS.length ≤ 1000000) (hTk : ∀ i, i < TS.length → TbW w (TS.getD i tb0)) :
  Calls Tryz.prog 23 #[zp b, (.agg ⟨([i6 F, i6 c, i6 E, u6 last, (vm), (.map (some mo))] : LV)⟩), (.agg ⟨([i6 xe, u6 xt, (.slice pa PS.length pc), (.slice oa OS.length oc), (.slice ta TS.length tc)] : LV)⟩)] w fun e w' => e = .returned (.bool (Z1S F c E last L M xe xt PS OS TS)) ∧ Upd [] w w' := by
 have H := Sat.start0 w
 refine Za Tryz.func23 rfl 132 rfl kn ?_
 refine zsl <| zy <| zdb (Z4t F c E last vm mo) H fun b2 w3 H4 => ?_
 refine kk <| zy <| zdb (Z9i xe xt pa PS.length pc oa OS.length oc ta TS.length tc) H4 fun b6 w7 H8 => ?_
 refine kk <| wv 6 (.bool false) <| znt <| Z7 <| zsl <| wv 14 (pt b6 0) <| zw1 15 (vi xe) (H8.cell 2 rfl rfl) <| wv 16 (pt b2 2) <| zw1 17 (vi E) (H8.cell 1 rfl rfl) <| wv 18 (.bool (!(decide (xe = E)))) ?_
 refine wv 19 (.bool (!(decide (xe = E)))) ?_
 refine (ZS (!(decide (xe = E)))).elim (fun b9 => ?_) (fun b9 => ?_)
 ·have g10 := Zf b9
  have g11 := of_decide_eq_false g10
  refine Z0z 19 (.bool true) (congrArg Value.bool b9) ?_
  iterate 5 refine wn 5 19 false ?_
  refine wv 25 (.bool true) <| wv 26 (.bool true) ?_
  iterate 3 refine wn 12 26 false ?_
  refine wv 30 (.bool true) <| wv 31 (.bool true) ?_
  iterate 4 refine wn 17 31 false ?_
  refine wv 36 (.bool true) <| wv 37 (.bool true) ?_
  iterate 4 refine wn 23 37 false ?_
  refine wv 42 (.bool true) <| wv 43 (.bool true) ?_
  iterate 5 refine wn 29 43 false ?_
  refine wv 49 (.bool true) <| znt <| Z0n rfl ?_
  refine zsl <| wv 6 (.bool false) <| znt <| Zk <| Zb <| ze1 (.bool false) ?_
  have n14 := Zf b9
  exact ⟨by simp only [Z1S, n14, bls], H8.upd 0 rfl [] ne⟩
 have g15 := Z3 b9
 have g16 := of_decide_eq_true g15
 refine Z0z 19 (.bool false) (congrArg Value.bool b9) ?_
 refine wy 5 19 false 20 (pt b6 1) <| wy 5 19 false 21 (vu xt) ?_ (hr := zl1 (H8.cell 2 rfl rfl))
 refine wy 5 19 false 22 (pt b2 3) <| wy 5 19 false 23 (vu last) ?_ (hr := zl1 (H8.cell 1 rfl rfl))
 refine wy 5 19 false 24 (.bool (decide (xt ≤ last))) <| wv 25 (.bool (decide (xt ≤ last))) <| wv 26 (.bool (decide (xt ≤ last))) ?_
 refine zil 26 (fun b19 g20 => ?_) fun b19 g23 => ?_
 ·iterate 3 refine wn 12 26 false ?_
  refine wv 30 (.bool true) <| wv 31 (.bool true) ?_
  iterate 4 refine wn 17 31 false ?_
  refine wv 36 (.bool true) <| wv 37 (.bool true) ?_
  iterate 4 refine wn 23 37 false ?_
  refine wv 42 (.bool true) <| wv 43 (.bool true) ?_
  iterate 5 refine wn 29 43 false ?_
  refine wv 49 (.bool true) <| znt <| Z0n rfl ?_
  refine zsl <| wv 6 (.bool false) <| znt <| Zk <| Zb <| ze1 (.bool false) ?_
  have n22 := Z3 b9
  exact ⟨by simp only [Z1S, n22, b19, bls], H8.upd 0 rfl [] ne⟩
 refine wy 12 26 false 27 (pt b6 1) <| wy 12 26 false 28 (vu xt) ?_ (hr := zl1 (H8.cell 2 rfl rfl))
 refine wy 12 26 false 29 (.bool (decide (xt = 18446744073709551615))) <| wv 30 (.bool (decide (xt = 18446744073709551615))) <| wv 31 (.bool (decide (xt = 18446744073709551615))) ?_
 refine zil 31 (fun b25 g26 => ?_) fun b25 g29 => ?_
 ·iterate 4 refine wn 17 31 false ?_
  refine wv 36 (.bool true) <| wv 37 (.bool true) ?_
  iterate 4 refine wn 23 37 false ?_
  refine wv 42 (.bool true) <| wv 43 (.bool true) ?_
  iterate 5 refine wn 29 43 false ?_
  refine wv 49 (.bool true) <| znt <| Z0n rfl ?_
  refine zsl <| wv 6 (.bool false) <| znt <| Zk <| Zb <| ze1 (.bool false) ?_
  have n28 := Z3 b9
  exact ⟨by simp only [Z1S, n28, b19, b25, bls], H8.upd 0 rfl [] ne⟩
 refine wy 17 31 false 32 (pt b6 3) <| wy 17 31 false 33 (.slice oa OS.length oc) ?_ (hr := zl1 (H8.cell 2 rfl rfl))
 refine wy 17 31 false 34 (vi OS.length) <| wy 17 31 false 35 (.bool (decide ((OS.length : Int) > 64))) <| wv 36 (.bool (decide ((OS.length : Int) > 64))) <| wv 37 (.bool (decide ((OS.length : Int) > 64))) ?_
 refine zil 37 (fun b31 g32 => ?_) fun b31 g35 => ?_
 ·iterate 4 refine wn 23 37 false ?_
  refine wv 42 (.bool true) <| wv 43 (.bool true) ?_
  iterate 5 refine wn 29 43 false ?_
  refine wv 49 (.bool true) <| znt <| Z0n rfl ?_
  refine zsl <| wv 6 (.bool false) <| znt <| Zk <| Zb <| ze1 (.bool false) ?_
  have n34 := Z3 b9
  exact ⟨by simp only [Z1S, n34, b19, b25, b31, bls], H8.upd 0 rfl [] ne⟩
 refine wy 23 37 false 38 (pt b6 4) <| wy 23 37 false 39 (.slice ta TS.length tc) ?_ (hr := zl1 (H8.cell 2 rfl rfl))
 refine wy 23 37 false 40 (vi TS.length) <| wy 23 37 false 41 (.bool (decide ((TS.length : Int) > 64))) <| wv 42 (.bool (decide ((TS.length : Int) > 64))) <| wv 43 (.bool (decide ((TS.length : Int) > 64))) ?_
 refine zil 43 (fun b37 g38 => ?_) fun b37 g41 => ?_
 ·iterate 5 refine wn 29 43 false ?_
  refine wv 49 (.bool true) <| znt <| Z0n rfl ?_
  refine zsl <| wv 6 (.bool false) <| znt <| Zk <| Zb <| ze1 (.bool false) ?_
  have n40 := Z3 b9
  exact ⟨by simp only [Z1S, n40, b19, b25, b31, b37, bls], H8.upd 0 rfl [] ne⟩
 refine wy 29 43 false 44 (pt b 0) <| wy 29 43 false 45 (.agg ⟨(Z4t F c E last vm mo)⟩) ?_ (hr := zlN (vs := (Z4t F c E last vm mo)) (H8.at 1 rfl))
 refine wy 29 43 false 46 (.agg ⟨(Z9i xe xt pa PS.length pc oa OS.length oc ta TS.length tc)⟩) ?_ (hr := zlN (vs := (Z9i xe xt pa PS.length pc oa OS.length oc ta TS.length tc)) (H8.at 2 rfl))
 refine Z48 (Z0a 29 43 false rfl kr rfl kr) (fun Kq kq => ?_)
 refine zdq 47 (Zcp w7 F c E last hF vm mo b mb L (H8.roCk 0 rfl hb (fun _ _ h => h)) (H8.roMap 0 rfl hm (fun h => h)) xe xt pa pc PS (ListAt.now H8 0 rfl hPS) hlP (fun i hi => (hPk i hi).now H8 0 rfl) (.slice oa OS.length oc) (.slice ta TS.length tc)) H8 ?_
 intro w44 H45
 refine kq _ _ <| wy 29 43 false 48 (.bool (!(Z3h F c L xe xt PS))) <| wv 49 (.bool (!(Z3h F c L xe xt PS))) <| znt ?_
 refine (ZS (!(Z3h F c L xe xt PS))).elim (fun b47 => ?_) (fun b47 => ?_)
 ·have g48 := Zf b47
  refine Z4z _ b47 ?_
  refine zsl <| wv 6 (.bool false) <| znt <| Zk <| Zb <| ze1 (.bool false) ?_
  have n50 := Z3 b9
  have n51 := Zf b47
  exact ⟨by simp only [Z1S, n50, b19, b25, b31, b37, n51, bls], H45.upd 0 rfl [] ne⟩
 have g52 := Z3 b47
 refine Z46 _ b47 ?_
 refine Zm <| ztn <| zsl <| zy <| Z2l (Value.int .i64) Value.bool rfl H45 fun b55 w56 H57 => ?_
 refine kk <| wv 7 (.map (some b55)) <| znt <| Z7 <| zsl <| wv 51 (pt b6 3) <| zw1 52 (.slice oa OS.length oc) (H57.cell 2 rfl rfl) <| wv 53 (vi OS.length) <| wv 54 (vi 0) <| znt ?_
 apply Zc
 have n58 := Z3 b9
 have n59 := Z3 b47
 refine Zq ([6, 8, 9] ++ List.range' 54 29) (fun F_ W_ m_ => ∃ (i : Nat) (HV : List (Int × Bool)), F_ 54 = (vi i) ∧ (i ≤ OS.length) ∧ (∀ j, j < i → Zbc M OS j = true) ∧ (HvOk HV (fun x : OpR => x.i) (OS.take i)) ∧ Sat w [zR w, Z0 b2 54 (Z4t F c E last vm mo), Z0 b6 47 (Z9i xe xt pa PS.length pc oa OS.length oc ta TS.length tc), Z0u b55 (Value.int .i64) Value.bool HV] W_ ∧ m_ = OS.length - i) _ ⟨0, [], (show ((vi 0) : Value) = _ by first | rfl | go_num), (Nat.zero_le _), (fun _ h => absurd h (Nat.not_lt_zero _)), HvOk.nil, H57, rfl⟩ ?_
 rintro g60 w61 _ ⟨i, HV, v63, hi, halli, hhv, H62, rfl⟩
 refine Ze 54 _ v63 ?_
 refine zsl <| wv 55 (.bool (decide ((i : Int) < OS.length))) <| znt <| Z7 ?_
 refine zid (fun b65 g66 => ?_) fun b65 g124 => ?_
 ·refine Zm <| ztn <| Z7 <| Zc <| zsl <| wv 56 (vi i) ?_
  obtain ⟨g68, o69, c70, e71, R72⟩ := SliceOf.atD hOS op0 (show i < OS.length by omega)
  refine wv 57 (.pointer (some ⟨g68, o69 + ((i : Int)).toNat * 34, none⟩)) ?_ (hr := Zd (E := 86) kr kr kn rfl e71 rfl om om)
  refine wv 58 (.agg ⟨(Z7d (OS.getD i op0) ((OS.getD i op0).P.length))⟩) ?_ (hr := ZE (vs := (Z7d (OS.getD i op0) ((OS.getD i op0).P.length))) rfl kr kr kn (H62.runR 0 rfl (Z0k R72 0 kr (show o69 + ((i : Int)).toNat * 34 = o69 + i * 34 + 0 by omega)) (fun h => h)))
  refine zy <| zda (([(vi 0), (.slice none 0 0)] : LV) ++ hc ZC) H62 fun b74 w75 H76 => ?_
  refine kk <| wv 8 (vi i) <| zy <| Z1p (Z7d (OS.getD i op0) ((OS.getD i op0).P.length)) H76 4 fun w78 H79 => ?_
  refine kk <| znt <| Z7 <| Z7 <| zqs H79 ?_
  refine qv 59 (vi i) <| qv 60 (.bool (decide ((i : Int) > 0))) <| qv 61 (.bool (decide ((i : Int) > 0))) ?_
  refine ziq 61 (fun b81 g82 => ?_) fun b81 g109 => ?_
  ·refine qy 2 61 true 62 (pt b74 0) <| qy 2 61 true 63 (vi ((OS.getD i op0).i)) ?_ (hr := fun _ H' => (zl1 (H'.cell 4 rfl kr)))
   refine qy 2 61 true 64 (pt b6 3) <| qy 2 61 true 65 (.slice oa OS.length oc) ?_ (hr := fun _ H' => (zl1 (H'.cell 2 rfl rfl)))
   refine qy 2 61 true 66 (vi i) <| qy 2 61 true 67 (vi ((i : Int) - 1)) ?_ (hr := fun _ H' => (Z0q (z := (i : Int) - 1) kr (IntWalk.i64_in _ om)))
   obtain ⟨g84, o85, c86, e87, R88⟩ := SliceOf.atD hOS op0 (show ((i : Int) - 1).toNat < OS.length by omega)
   refine qy 2 61 true 68 (.pointer (some ⟨g84, o85 + ((i : Int) - 1).toNat * 34, none⟩)) ?_ (hr := fun _ H' => (Zd (E := 86) kr kr kn rfl e87 rfl om om))
   refine qy 2 61 true 69 (.pointer (some ⟨g84, o85 + ((i : Int) - 1).toNat * 34, none⟩)) <| qy 2 61 true 70 (vi ((OS.getD ((i : Int) - 1).toNat op0).i)) ?_ (hr := fun _ H' => (zl1 (H'.cellR 0 rfl (Z0o R88 0 kr (show o85 + ((i : Int) - 1).toNat * 34 = o85 + ((i : Int) - 1).toNat * 34 + 0 by omega)) (fun h => h))))
   refine qy 2 61 true 71 (.bool (decide (((OS.getD i op0).i) ≤ ((OS.getD ((i : Int) - 1).toNat op0).i)))) <| qv 72 (.bool (decide (((OS.getD i op0).i) ≤ ((OS.getD ((i : Int) - 1).toNat op0).i)))) <| qv 73 (.bool (decide (((OS.getD i op0).i) ≤ ((OS.getD ((i : Int) - 1).toNat op0).i)))) ?_
   refine ziq 73 (fun b89 g90 => ?_) fun b89 g94 => ?_
   ·iterate 4 refine qn 14 73 false ?_
    refine qv 78 (.bool true) <| Z09 fun w92 H93 => ?_
    refine ztn <| Z0n rfl ?_
    refine zsl <| wv 6 (.bool false) <| znt <| Zk <| Zb <| Zu <| Zb <| ZT <| Zu <| Zb ?_
    refine ze1 (.bool false) ?_
    have e1 : ((i : Int) - 1).toNat = i - 1 := by omega
    have ho : Zbc M OS i = false := by unfold Zbc; rw [← e1]; simp only [b65, b81, b89, bls]
    have hbad := Z0h (show i < OS.length by omega) ho
    exact ⟨by simp only [Z1S, hbad, Bool.false_and, Bool.and_false], H93.upd 0 rfl [] ne⟩
   refine qy 14 73 false 74 (.agg ⟨(Z4t F c E last vm mo)⟩) ?_ (hr := fun _ H' => (zlN (vs := (Z4t F c E last vm mo)) (H'.at 1 rfl)))
   refine qy 14 73 false 75 (.agg ⟨(Z7d (OS.getD i op0) ((OS.getD i op0).P.length))⟩) ?_ (hr := fun _ H' => (zlN (vs := (Z7d (OS.getD i op0) ((OS.getD i op0).P.length))) (H'.at 4 rfl)))
   refine Z0N (Z0a 14 73 false rfl kr rfl kr) (d := 76) (v := (.bool (Z2B M (OS.getD i op0)))) rfl (fun _ _ => by kernel_rfl) (fun w' H' => (Z5h w' F c E last vm mo M (H'.roMap 0 rfl hmo (fun h => h)) hM (OS.getD i op0) (ListAt.now H' 0 rfl (hoL i om)) (hlo i om)).mono fun _ _ h => ⟨h.1, H'.keepU h.2⟩) ?_
   refine qy 14 73 false 77 (.bool (!(Z2B M (OS.getD i op0)))) <| qv 78 (.bool (!(Z2B M (OS.getD i op0)))) <| Z09 fun w96 H97 => ?_
   apply ztn
   refine (ZS (!(Z2B M (OS.getD i op0)))).elim (fun b98 => ?_) (fun b98 => ?_)
   ·have g99 := Zf b98
    refine Z4z _ b98 ?_
    refine zsl <| wv 6 (.bool false) <| znt <| Zk <| Zb <| Zu <| Zb <| ZT <| Zu <| Zb ?_
    refine ze1 (.bool false) ?_
    have n101 := Zf b98
    have e1 : ((i : Int) - 1).toNat = i - 1 := by omega
    have ho : Zbc M OS i = false := by unfold Zbc; rw [← e1]; simp only [b65, b81, b89, n101, bls]
    have hbad := Z0h (show i < OS.length by omega) ho
    exact ⟨by simp only [Z1S, hbad, Bool.false_and, Bool.and_false], H97.upd 0 rfl [] ne⟩
   have g102 := Z3 b98
   refine Z46 _ b98 ?_
   refine Zm <| ztn <| Zl <| wv 79 (.map (some b55)) <| wv 80 (pt b74 0) <| zw1 81 (vi ((OS.getD i op0).i)) (H97.cell 4 rfl kr) <| zy <| Z0P (kt := 3) (et := 4) rfl H97 3 rfl (KeyTy.int kr) kr rfl ((OS.getD i op0).i) rfl true rfl fun w105 H106 => ?_
   refine kk <| Zn <| Z6 <| ztn <| Zl <| zwi 82 ((i : Int) + 1) <| wv 54 (vi ((i : Int) + 1)) <| Zn ?_
   have n107 := Z3 b98
   have e1 : ((i : Int) - 1).toNat = i - 1 := by omega
   have ho : Zbc M OS i = true := by unfold Zbc; rw [← e1]; simp only [b65, b81, b89, n107, bls]
   have H108 := H106.pk [0, 1, 2, 3]
   refine Z5 ?_ _ ⟨(i + 1), (Z2p HV ((OS.getD i op0).i) true), rfl, om, (fun j hj => by rcases Nat.lt_or_ge j i with h | h; exact halli j h; rw [show j = i by omega]; exact ho), (by rw [Z7N OS op0 om]; exact HvOk.put (num := (fun x : OpR => x.i)) (x := OS.getD i op0) hhv), H108, rfl⟩ om
   exact zs
  iterate 10 refine qn 2 61 true ?_
  refine qv 72 (.bool false) <| qv 73 (.bool false) <| qy 14 73 false 74 (.agg ⟨(Z4t F c E last vm mo)⟩) ?_ (hr := fun _ H' => (zlN (vs := (Z4t F c E last vm mo)) (H'.at 1 rfl)))
  refine qy 14 73 false 75 (.agg ⟨(Z7d (OS.getD i op0) ((OS.getD i op0).P.length))⟩) ?_ (hr := fun _ H' => (zlN (vs := (Z7d (OS.getD i op0) ((OS.getD i op0).P.length))) (H'.at 4 rfl)))
  refine Z0N (Z0a 14 73 false rfl kr rfl kr) (d := 76) (v := (.bool (Z2B M (OS.getD i op0)))) rfl (fun _ _ => by kernel_rfl) (fun w' H' => (Z5h w' F c E last vm mo M (H'.roMap 0 rfl hmo (fun h => h)) hM (OS.getD i op0) (ListAt.now H' 0 rfl (hoL i om)) (hlo i om)).mono fun _ _ h => ⟨h.1, H'.keepU h.2⟩) ?_
  refine qy 14 73 false 77 (.bool (!(Z2B M (OS.getD i op0)))) <| qv 78 (.bool (!(Z2B M (OS.getD i op0)))) <| Z09 fun w111 H112 => ?_
  apply ztn
  refine (ZS (!(Z2B M (OS.getD i op0)))).elim (fun b113 => ?_) (fun b113 => ?_)
  ·have g114 := Zf b113
   refine Z4z _ b113 ?_
   refine zsl <| wv 6 (.bool false) <| znt <| Zk <| Zb <| Zu <| Zb <| ZT <| Zu <| Zb ?_
   refine ze1 (.bool false) ?_
   have n116 := Zf b113
   have e1 : ((i : Int) - 1).toNat = i - 1 := by omega
   have ho : Zbc M OS i = false := by unfold Zbc; rw [← e1]; simp only [b65, b81, n116, bls]
   have hbad := Z0h (show i < OS.length by omega) ho
   exact ⟨by simp only [Z1S, hbad, Bool.false_and, Bool.and_false], H112.upd 0 rfl [] ne⟩
  have g117 := Z3 b113
  refine Z46 _ b113 ?_
  refine Zm <| ztn <| Zl <| wv 79 (.map (some b55)) <| wv 80 (pt b74 0) <| zw1 81 (vi ((OS.getD i op0).i)) (H112.cell 4 rfl kr) <| zy <| Z0P (kt := 3) (et := 4) rfl H112 3 rfl (KeyTy.int kr) kr rfl ((OS.getD i op0).i) rfl true rfl fun w120 H121 => ?_
  refine kk <| Zn <| Z6 <| ztn <| Zl <| zwi 82 ((i : Int) + 1) <| wv 54 (vi ((i : Int) + 1)) <| Zn ?_
  have n122 := Z3 b113
  have e1 : ((i : Int) - 1).toNat = i - 1 := by omega
  have ho : Zbc M OS i = true := by unfold Zbc; rw [← e1]; simp only [b65, b81, n122, bls]
  have H123 := H121.pk [0, 1, 2, 3]
  refine Z5 ?_ _ ⟨(i + 1), (Z2p HV ((OS.getD i op0).i) true), rfl, om, (fun j hj => by rcases Nat.lt_or_ge j i with h | h; exact halli j h; rw [show j = i by omega]; exact ho), (by rw [Z7N OS op0 om]; exact HvOk.put (num := (fun x : OpR => x.i)) (x := OS.getD i op0) hhv), H123, rfl⟩ om
  exact zs
 refine zxb <| ztn <| Z7 <| zsl <| wv 83 (pt b6 4) <| zw1 84 (.slice ta TS.length tc) (H62.cell 2 rfl rfl) <| wv 85 (vi TS.length) <| wv 86 (vi 0) <| znt <| Zc ?_
 have hO : i = OS.length := by omega
 have hhv2 : HvOk HV (fun x : OpR => x.i) OS := by have q := hhv; rw [hO, List.take_length] at q; exact q
 refine Zq ([6, 10, 11, 12, 13] ++ List.range' 86 46) (fun F_ W_ m_ => ∃ (k : Nat), F_ 86 = (vi k) ∧ (k ≤ TS.length) ∧ (∀ j, j < k → Z7t F L M OS TS j = true) ∧ Sat w [zR w, Z0 b2 54 (Z4t F c E last vm mo), Z0 b6 47 (Z9i xe xt pa PS.length pc oa OS.length oc ta TS.length tc), Z0u b55 (Value.int .i64) Value.bool HV] W_ ∧ m_ = TS.length - k) _ ⟨0, (show ((vi 0) : Value) = _ by first | rfl | go_num), (Nat.zero_le _), (fun _ h => absurd h (Nat.not_lt_zero _)), H62, rfl⟩ ?_
 rintro g126 w127 _ ⟨k, v129, hk, hallk, H128, rfl⟩
 refine Ze 86 _ v129 ?_
 refine zsl <| wv 87 (.bool (decide ((k : Int) < TS.length))) <| znt <| Z7 ?_
 refine zid (fun b131 g132 => ?_) fun b131 g220 => ?_
 ·refine Zm <| ztn <| Z7 <| Zc <| zsl <| wv 88 (vi k) ?_
  obtain ⟨g134, o135, c136, e137, R138⟩ := SliceOf.atD hTS tb0 (show k < TS.length by omega)
  refine wv 89 (.pointer (some ⟨g134, o135 + ((k : Int)).toNat * 2, none⟩)) ?_ (hr := Zd (E := 89) kr kr kn rfl e137 rfl om om)
  refine wv 90 (.agg ⟨(Z71 (TS.getD k tb0) ((TS.getD k tb0).D.length))⟩) ?_ (hr := ZE (vs := (Z71 (TS.getD k tb0) ((TS.getD k tb0).D.length))) rfl kr kr kn (H128.runR 0 rfl (Z0k R138 0 kr (show o135 + ((k : Int)).toNat * 2 = o135 + k * 2 + 0 by omega)) (fun h => h)))
  refine zy <| zda ([(vi 0), (.slice none 0 0)] : LV) H128 fun b140 w141 H142 => ?_
  refine kk <| wv 10 (vi k) <| zy <| Z1p (Z71 (TS.getD k tb0) ((TS.getD k tb0).D.length)) H142 4 fun w144 H145 => ?_
  refine kk <| Z0G <| wv 92 (pt b2 5) <| zw1 93 (.map (some mo)) (H145.cell 1 rfl rfl) <| wv 94 (pt b140 0) <| zw1 95 (vi ((TS.getD k tb0).i)) (H145.cell 4 rfl rfl) <| wv 96 (.tuple #[(.agg ⟨(Zbr ((ZB M ((TS.getD k tb0).i)).getD Z1K))⟩), (.bool ((ZB M ((TS.getD k tb0).i)).isSome))]) ?_ (hr := Z4k (kt := 3) (et := 63) (KeyTy.int kr) kr Z9v rfl ((TS.getD k tb0).i) rfl (H145.roMap 0 rfl hmo (fun h => h)) (Z87 Z2y _ _) rfl)
  refine wv 91 (.tuple #[(.agg ⟨(Zbr ((ZB M ((TS.getD k tb0).i)).getD Z1K))⟩), (.bool ((ZB M ((TS.getD k tb0).i)).isSome))]) <| wv 97 (.agg ⟨(Zbr ((ZB M ((TS.getD k tb0).i)).getD Z1K))⟩) <| wv 98 (.bool ((ZB M ((TS.getD k tb0).i)).isSome)) <| zy <| zda (kVaP_9) H145 fun b148 w149 H150 => ?_
  refine kk <| zy <| Z1p (Zbr ((ZB M ((TS.getD k tb0).i)).getD Z1K)) H150 5 fun w152 H153 => ?_
  refine kk <| wv 13 (.bool ((ZB M ((TS.getD k tb0).i)).isSome)) <| znt <| Z7 <| zqs H153 ?_
  refine qv 99 (vi k) <| qv 100 (.bool (decide ((k : Int) > 0))) <| qv 101 (.bool (decide ((k : Int) > 0))) ?_
  refine ziq 101 (fun b155 g156 => ?_) fun b155 g194 => ?_
  ·refine qy 2 101 true 102 (pt b140 0) <| qy 2 101 true 103 (vi ((TS.getD k tb0).i)) ?_ (hr := fun _ H' => (zl1 (H'.cell 4 rfl rfl)))
   refine qy 2 101 true 104 (pt b6 4) <| qy 2 101 true 105 (.slice ta TS.length tc) ?_ (hr := fun _ H' => (zl1 (H'.cell 2 rfl rfl)))
   refine qy 2 101 true 106 (vi k) <| qy 2 101 true 107 (vi ((k : Int) - 1)) ?_ (hr := fun _ H' => (Z0q (z := (k : Int) - 1) kr (IntWalk.i64_in _ om)))
   obtain ⟨g158, o159, c160, e161, R162⟩ := SliceOf.atD hTS tb0 (show ((k : Int) - 1).toNat < TS.length by omega)
   refine qy 2 101 true 108 (.pointer (some ⟨g158, o159 + ((k : Int) - 1).toNat * 2, none⟩)) ?_ (hr := fun _ H' => (Zd (E := 89) kr kr kn rfl e161 rfl om om))
   refine qy 2 101 true 109 (.pointer (some ⟨g158, o159 + ((k : Int) - 1).toNat * 2, none⟩)) <| qy 2 101 true 110 (vi ((TS.getD ((k : Int) - 1).toNat tb0).i)) ?_ (hr := fun _ H' => (zl1 (H'.cellR 0 rfl (Z0o R162 0 kr (show o159 + ((k : Int) - 1).toNat * 2 = o159 + ((k : Int) - 1).toNat * 2 + 0 by omega)) (fun h => h))))
   refine qy 2 101 true 111 (.bool (decide (((TS.getD k tb0).i) ≤ ((TS.getD ((k : Int) - 1).toNat tb0).i)))) <| qv 112 (.bool (decide (((TS.getD k tb0).i) ≤ ((TS.getD ((k : Int) - 1).toNat tb0).i)))) <| qv 113 (.bool (decide (((TS.getD k tb0).i) ≤ ((TS.getD ((k : Int) - 1).toNat tb0).i)))) ?_
   refine ziq 113 (fun b163 g164 => ?_) fun b163 g168 => ?_
   ·iterate 2 refine qn 14 113 false ?_
    refine qv 116 (.bool true) <| qv 117 (.bool true) ?_
    iterate 4 refine qn 18 117 false ?_
    refine qv 122 (.bool true) <| qv 123 (.bool true) ?_
    iterate 6 refine qn 24 123 false ?_
    refine qv 130 (.bool true) <| Z09 fun w166 H167 => ?_
    refine ztn <| Z0n rfl ?_
    refine zsl <| wv 6 (.bool false) <| znt <| Zk <| Zu <| Zb <| ZT <| Zu <| Zb <| ze1 (.bool false) ?_
    have e1 : ((k : Int) - 1).toNat = k - 1 := by omega
    have ho : Z7t F L M OS TS k = false := by unfold Z7t; rw [← e1]; rw [← hhv2]; simp only [b131, b155, b163, bls]
    have hbad := Z0h (show k < TS.length by omega) ho
    exact ⟨by simp only [Z1S, hbad, Bool.and_false], H167.upd 0 rfl [] ne⟩
   refine qy 14 113 false 114 (.bool ((ZB M ((TS.getD k tb0).i)).isSome)) <| qy 14 113 false 115 (.bool (!((ZB M ((TS.getD k tb0).i)).isSome))) <| qv 116 (.bool (!((ZB M ((TS.getD k tb0).i)).isSome))) <| qv 117 (.bool (!((ZB M ((TS.getD k tb0).i)).isSome))) ?_
   refine (ZS (!((ZB M ((TS.getD k tb0).i)).isSome))).elim (fun b170 => ?_) (fun b170 => ?_)
   ·have g171 := Zf b170
    refine Z0t 117 (.bool true) (congrArg Value.bool b170) ?_
    iterate 4 refine qn 18 117 false ?_
    refine qv 122 (.bool true) <| qv 123 (.bool true) ?_
    iterate 6 refine qn 24 123 false ?_
    refine qv 130 (.bool true) <| Z09 fun w173 H174 => ?_
    refine ztn <| Z0n rfl ?_
    refine zsl <| wv 6 (.bool false) <| znt <| Zk <| Zu <| Zb <| ZT <| Zu <| Zb <| ze1 (.bool false) ?_
    have n175 := Zf b170
    have e1 : ((k : Int) - 1).toNat = k - 1 := by omega
    have ho : Z7t F L M OS TS k = false := by unfold Z7t; rw [← e1]; rw [← hhv2]; simp only [b131, b155, b163, n175, bls]
    have hbad := Z0h (show k < TS.length by omega) ho
    exact ⟨by simp only [Z1S, hbad, Bool.and_false], H174.upd 0 rfl [] ne⟩
   have g176 := Z3 b170
   refine Z0t 117 (.bool false) (congrArg Value.bool b170) ?_
   refine qy 18 117 false 118 (.map (some b55)) <| qy 18 117 false 119 (pt b140 0) <| qy 18 117 false 120 (vi ((TS.getD k tb0).i)) ?_ (hr := fun _ H' => (zl1 (H'.cell 4 rfl rfl)))
   refine qy 18 117 false 121 (.bool ((ZB HV ((TS.getD k tb0).i)).getD false)) ?_ (hr := fun _ H' => (Z25 (kt := 3) (et := 4) (KeyTy.int kr) kr (fun w => by kernel_rfl) rfl ((TS.getD k tb0).i) rfl (H'.at 3 rfl) (Z87 Value.bool _ _)))
   refine qv 122 (.bool ((ZB HV ((TS.getD k tb0).i)).getD false)) <| qv 123 (.bool ((ZB HV ((TS.getD k tb0).i)).getD false)) ?_
   refine (ZS ((ZB HV ((TS.getD k tb0).i)).getD false)).elim (fun b178 => ?_) (fun b178 => ?_)
   ·refine Z0t 123 (.bool true) (congrArg Value.bool b178) ?_
    iterate 6 refine qn 24 123 false ?_
    refine qv 130 (.bool true) <| Z09 fun w179 H180 => ?_
    refine ztn <| Z0n rfl ?_
    refine zsl <| wv 6 (.bool false) <| znt <| Zk <| Zu <| Zb <| ZT <| Zu <| Zb <| ze1 (.bool false) ?_
    have n181 := Z3 b170
    have e1 : ((k : Int) - 1).toNat = k - 1 := by omega
    have ho : Z7t F L M OS TS k = false := by unfold Z7t; rw [← e1]; rw [← hhv2]; simp only [b131, b155, b163, n181, b178, bls]
    have hbad := Z0h (show k < TS.length by omega) ho
    exact ⟨by simp only [Z1S, hbad, Bool.and_false], H180.upd 0 rfl [] ne⟩
   refine Z0t 123 (.bool false) (congrArg Value.bool b178) ?_
   refine qy 24 123 false 124 (pt b2 0) <| qy 24 123 false 125 (.agg ⟨(Z58 F c)⟩) ?_ (hr := fun _ H' => (zlN (vs := (Z58 F c)) (H'.at 1 rfl)))
   refine qy 24 123 false 126 (pt b 0) <| qy 24 123 false 127 (.agg ⟨(Z71 (TS.getD k tb0) ((TS.getD k tb0).D.length))⟩) ?_ (hr := fun _ H' => (zlN (vs := (Z71 (TS.getD k tb0) ((TS.getD k tb0).D.length))) (H'.at 4 rfl)))
   refine Z0N (Z0a 24 123 false rfl kr rfl kr) (d := 128) (v := (.bool (Z1c F L (TS.getD k tb0).i (TS.getD k tb0).D))) rfl (fun _ _ => by kernel_rfl) (fun w' H' => (Z3M w' F c om b mb L (H'.roCk 0 rfl hb (fun _ _ h => h)) (H'.roMap 0 rfl hm (fun h => h)) (TS.getD k tb0).i (TS.getD k tb0).da (TS.getD k tb0).dc (TS.getD k tb0).D (ListAt.now H' 0 rfl (hTk k om).D) (hTk k om).ok (hTk k om).len).mono fun _ _ h => ⟨h.1, H'.keepU h.2⟩) ?_
   refine qy 24 123 false 129 (.bool (!(Z1c F L (TS.getD k tb0).i (TS.getD k tb0).D))) <| qv 130 (.bool (!(Z1c F L (TS.getD k tb0).i (TS.getD k tb0).D))) <| Z09 fun w182 H183 => ?_
   apply ztn
   refine (ZS (!(Z1c F L (TS.getD k tb0).i (TS.getD k tb0).D))).elim (fun b184 => ?_) (fun b184 => ?_)
   ·have g185 := Zf b184
    refine Z4z _ b184 ?_
    refine zsl <| wv 6 (.bool false) <| znt <| Zk <| Zu <| Zb <| ZT <| Zu <| Zb <| ze1 (.bool false) ?_
    have n187 := Z3 b170
    have n188 := Zf b184
    have e1 : ((k : Int) - 1).toNat = k - 1 := by omega
    have ho : Z7t F L M OS TS k = false := by unfold Z7t; rw [← e1]; rw [← hhv2]; simp only [b131, b155, b163, n187, b178, n188, bls]
    have hbad := Z0h (show k < TS.length by omega) ho
    exact ⟨by simp only [Z1S, hbad, Bool.and_false], H183.upd 0 rfl [] ne⟩
   have g189 := Z3 b184
   refine Z46 _ b184 ?_
   refine Zm <| Z6 <| ztn <| Zl <| zwi 131 ((k : Int) + 1) <| wv 86 (vi ((k : Int) + 1)) <| Zn ?_
   have n191 := Z3 b170
   have n192 := Z3 b184
   have e1 : ((k : Int) - 1).toNat = k - 1 := by omega
   have ho : Z7t F L M OS TS k = true := by unfold Z7t; rw [← e1]; rw [← hhv2]; simp only [b131, b155, b163, n191, b178, n192, bls]
   have H193 := H183.pk [0, 1, 2, 3]
   refine Z5 ?_ _ ⟨(k + 1), rfl, om, (fun j hj => by rcases Nat.lt_or_ge j k with h | h; exact hallk j h; rw [show j = k by omega]; exact ho), H193, rfl⟩ om
   exact zs
  iterate 10 refine qn 2 101 true ?_
  refine qv 112 (.bool false) <| qv 113 (.bool false) <| qy 14 113 false 114 (.bool ((ZB M ((TS.getD k tb0).i)).isSome)) <| qy 14 113 false 115 (.bool (!((ZB M ((TS.getD k tb0).i)).isSome))) <| qv 116 (.bool (!((ZB M ((TS.getD k tb0).i)).isSome))) <| qv 117 (.bool (!((ZB M ((TS.getD k tb0).i)).isSome))) ?_
  refine (ZS (!((ZB M ((TS.getD k tb0).i)).isSome))).elim (fun b196 => ?_) (fun b196 => ?_)
  ·have g197 := Zf b196
   refine Z0t 117 (.bool true) (congrArg Value.bool b196) ?_
   iterate 4 refine qn 18 117 false ?_
   refine qv 122 (.bool true) <| qv 123 (.bool true) ?_
   iterate 6 refine qn 24 123 false ?_
   refine qv 130 (.bool true) <| Z09 fun w199 H200 => ?_
   refine ztn <| Z0n rfl ?_
   refine zsl <| wv 6 (.bool false) <| znt <| Zk <| Zu <| Zb <| ZT <| Zu <| Zb <| ze1 (.bool false) ?_
   have n201 := Zf b196
   have e1 : ((k : Int) - 1).toNat = k - 1 := by omega
   have ho : Z7t F L M OS TS k = false := by unfold Z7t; rw [← e1]; rw [← hhv2]; simp only [b131, b155, n201, bls]
   have hbad := Z0h (show k < TS.length by omega) ho
   exact ⟨by simp only [Z1S, hbad, Bool.and_false], H200.upd 0 rfl [] ne⟩
  have g202 := Z3 b196
  refine Z0t 117 (.bool false) (congrArg Value.bool b196) ?_
  refine qy 18 117 false 118 (.map (some b55)) <| qy 18 117 false 119 (pt b140 0) <| qy 18 117 false 120 (vi ((TS.getD k tb0).i)) ?_ (hr := fun _ H' => (zl1 (H'.cell 4 rfl rfl)))
  refine qy 18 117 false 121 (.bool ((ZB HV ((TS.getD k tb0).i)).getD false)) ?_ (hr := fun _ H' => (Z25 (kt := 3) (et := 4) (KeyTy.int kr) kr (fun w => by kernel_rfl) rfl ((TS.getD k tb0).i) rfl (H'.at 3 rfl) (Z87 Value.bool _ _)))
  refine qv 122 (.bool ((ZB HV ((TS.getD k tb0).i)).getD false)) <| qv 123 (.bool ((ZB HV ((TS.getD k tb0).i)).getD false)) ?_
  refine (ZS ((ZB HV ((TS.getD k tb0).i)).getD false)).elim (fun b204 => ?_) (fun b204 => ?_)
  ·refine Z0t 123 (.bool true) (congrArg Value.bool b204) ?_
   iterate 6 refine qn 24 123 false ?_
   refine qv 130 (.bool true) <| Z09 fun w205 H206 => ?_
   refine ztn <| Z0n rfl ?_
   refine zsl <| wv 6 (.bool false) <| znt <| Zk <| Zu <| Zb <| ZT <| Zu <| Zb <| ze1 (.bool false) ?_
   have n207 := Z3 b196
   have e1 : ((k : Int) - 1).toNat = k - 1 := by omega
   have ho : Z7t F L M OS TS k = false := by unfold Z7t; rw [← e1]; rw [← hhv2]; simp only [b131, b155, n207, b204, bls]
   have hbad := Z0h (show k < TS.length by omega) ho
   exact ⟨by simp only [Z1S, hbad, Bool.and_false], H206.upd 0 rfl [] ne⟩
  refine Z0t 123 (.bool false) (congrArg Value.bool b204) ?_
  refine qy 24 123 false 124 (pt b2 0) <| qy 24 123 false 125 (.agg ⟨(Z58 F c)⟩) ?_ (hr := fun _ H' => (zlN (vs := (Z58 F c)) (H'.at 1 rfl)))
  refine qy 24 123 false 126 (pt b 0) <| qy 24 123 false 127 (.agg ⟨(Z71 (TS.getD k tb0) ((TS.getD k tb0).D.length))⟩) ?_ (hr := fun _ H' => (zlN (vs := (Z71 (TS.getD k tb0) ((TS.getD k tb0).D.length))) (H'.at 4 rfl)))
  refine Z0N (Z0a 24 123 false rfl kr rfl kr) (d := 128) (v := (.bool (Z1c F L (TS.getD k tb0).i (TS.getD k tb0).D))) rfl (fun _ _ => by kernel_rfl) (fun w' H' => (Z3M w' F c om b mb L (H'.roCk 0 rfl hb (fun _ _ h => h)) (H'.roMap 0 rfl hm (fun h => h)) (TS.getD k tb0).i (TS.getD k tb0).da (TS.getD k tb0).dc (TS.getD k tb0).D (ListAt.now H' 0 rfl (hTk k om).D) (hTk k om).ok (hTk k om).len).mono fun _ _ h => ⟨h.1, H'.keepU h.2⟩) ?_
  refine qy 24 123 false 129 (.bool (!(Z1c F L (TS.getD k tb0).i (TS.getD k tb0).D))) <| qv 130 (.bool (!(Z1c F L (TS.getD k tb0).i (TS.getD k tb0).D))) <| Z09 fun w208 H209 => ?_
  apply ztn
  refine (ZS (!(Z1c F L (TS.getD k tb0).i (TS.getD k tb0).D))).elim (fun b210 => ?_) (fun b210 => ?_)
  ·have g211 := Zf b210
   refine Z4z _ b210 ?_
   refine zsl <| wv 6 (.bool false) <| znt <| Zk <| Zu <| Zb <| ZT <| Zu <| Zb <| ze1 (.bool false) ?_
   have n213 := Z3 b196
   have n214 := Zf b210
   have e1 : ((k : Int) - 1).toNat = k - 1 := by omega
   have ho : Z7t F L M OS TS k = false := by unfold Z7t; rw [← e1]; rw [← hhv2]; simp only [b131, b155, n213, b204, n214, bls]
   have hbad := Z0h (show k < TS.length by omega) ho
   exact ⟨by simp only [Z1S, hbad, Bool.and_false], H209.upd 0 rfl [] ne⟩
  have g215 := Z3 b210
  refine Z46 _ b210 ?_
  refine Zm <| Z6 <| ztn <| Zl <| zwi 131 ((k : Int) + 1) <| wv 86 (vi ((k : Int) + 1)) <| Zn ?_
  have n217 := Z3 b196
  have n218 := Z3 b210
  have e1 : ((k : Int) - 1).toNat = k - 1 := by omega
  have ho : Z7t F L M OS TS k = true := by unfold Z7t; rw [← e1]; rw [← hhv2]; simp only [b131, b155, n217, b204, n218, bls]
  have H219 := H209.pk [0, 1, 2, 3]
  refine Z5 ?_ _ ⟨(k + 1), rfl, om, (fun j hj => by rcases Nat.lt_or_ge j k with h | h; exact hallk j h; rw [show j = k by omega]; exact ho), H219, rfl⟩ om
  exact zs
 refine zxb <| ztn <| zsl <| wv 6 (.bool true) <| znt <| Zk <| ze1 (.bool true) ?_
 have hn0 : k = TS.length := by omega
 subst hn0
 subst hO
 exact ⟨by simp only [Z1S, Z1B halli, Z1B hallk, n58, b19, b25, b31, b37, n59, bls], H128.upd 0 rfl [] ne⟩
end Go.Proofs.YtenihpghfdcpkaaGreat
