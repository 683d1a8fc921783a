/- WHAT IS PROVED: contracts and plain laws of LtT. Conditions: stated with each. -/
import Derived.Test.YtoaifondpohniaaGreatPL04
import Derived.Test.YtoaifondpohniaaGreatPL28
set_option maxHeartbeats 4000000
set_option maxRecDepth 100000
namespace Go.Proofs.YtoaifondpohniaaGreat
open Go.RowKit
abbrev Z8V (p0 : Int) (p1 : Int) (p2 : Int) (p3 : Nat) : List Value := ([(.int .i64 p0), (.int .i64 p1), (.int .i64 p2), (.map (some p3))] : List Value)
abbrev Z8W (p0 : Nat) : List Value := ([(.map (some p0))] : List Value)
abbrev Z6u (p0 : Nat) (p1 : List Signed) : Ck := ZQ p0 Zz (Value.int .i64) (ZS p1)
abbrev Z3o (p0 : CeR) : List Value := ([(.int .i64 p0.x.cl), (.int .i64 p0.x.seq)] : List Value) ++ hc p0.x.h ++ ([(.int .i64 p0.x.len), (.int .i64 p0.x.sb), (.int .i64 p0.x.sm), (.slice p0.sa p0.S.length p0.sc)] : List Value)
abbrev Z2c : List Value := ([(.int .i64 (0)), (.int .i64 (0)), (.int .i64 (0))] : List Value) ++ hc Z04 ++ ([(.int .u64 (0)), (.int .i64 (0)), (.int .i64 (0))] : List Value)
abbrev Z6v (p0 : Int) (p1 : Int) : List Value := ([(.int .i64 p0), (.int .i64 p1)] : List Value)
abbrev Z5G (p0 : Zg) (p1 : Option Addr) (p2 : Nat) (p3 : Nat) : List Value := ([(.int .i64 p0.cl), (.int .i64 p0.seq)] : List Value) ++ hc p0.h ++ ([(.int .i64 p0.len), (.int .i64 p0.sb), (.int .i64 p0.sm), (.slice p1 p2 p3)] : List Value)
abbrev kLtT_7 : List Value := ([(.int .i64 (0)), (.int .i64 (0))] : List Value) ++ hc Z04 ++ ([(.int .i64 (0)), (.int .i64 (0)), (.int .i64 (0)), (.slice none 0 0)] : List Value)
abbrev Z8X (p0 : Za) : List Value := ([(.int .i64 p0.r), (.int .i64 p0.cl), (.int .i64 p0.seq)] : List Value) ++ hc p0.h ++ ([(.int .u64 p0.t), (.int .i64 p0.sb), (.int .i64 p0.sm)] : List Value)
def nmX (x : CeR) : NmD := ⟨x.x.cl, x.x.seq⟩
section
variable {B : List Ck} {A : Ck} {c x : CeR} {M : List (NmD × CeR)} {a : NmD} {w : World} {F Cn floor : Int} {Lb : List Signed}
theorem CeT.more (h : CeT B c) (A : Ck) : CeT (A :: B) c := ⟨h.x, h.S, h.len, List.mem_cons_of_mem _ h.bag⟩
theorem Z75 (h : ∀ q ∈ M, CeT B q.2) (hs : (Zm M a).isSome = true) : CeT B ((Zm M a).getD ce0) := by
 obtain ⟨v, hv⟩ := Option.isSome_iff_exists.1 hs
 rw [hv]
 exact h _ (Z5L hv)
noncomputable def Z3a (F Cn floor : Int) (Lb : List Signed) (M : List (NmD × CeR)) (x : CeR) : Int :=
 if Z0m F Cn Lb x.x x.S = true then
  if (Zm M (nmX x)).isSome = true then
   if ((Zm M (nmX x)).getD ce0).x.h = x.x.h ∧ ZA ((Zm M (nmX x)).getD ce0).S = ZA x.S then 0 else 5
  else if ZA x.S ≤ floor then 4 else if 64 ≤ M.length then 7 else 0
 else 3
theorem mk3 (h : Z0m F Cn Lb x.x x.S = false) : 3 = Z3a F Cn floor Lb M x := by unfold Z3a; rw [if_neg (by rw [h]; decide)]
theorem mk5 (h : Z0m F Cn Lb x.x x.S = true) (h1 : (Zm M (nmX x)).isSome = true) (h2 : ¬ (((Zm M (nmX x)).getD ce0).x.h = x.x.h ∧ ZA ((Zm M (nmX x)).getD ce0).S = ZA x.S)) : 5 = Z3a F Cn floor Lb M x := by unfold Z3a; rw [if_pos h, if_pos h1, if_neg h2]
theorem mk0 (h : Z0m F Cn Lb x.x x.S = true) (h1 : (Zm M (nmX x)).isSome = true) (h2 : ((Zm M (nmX x)).getD ce0).x.h = x.x.h) (h3 : ZA ((Zm M (nmX x)).getD ce0).S = ZA x.S) : 0 = Z3a F Cn floor Lb M x := by unfold Z3a; rw [if_pos h, if_pos h1, if_pos ⟨h2, h3⟩]
theorem mk4 (h : Z0m F Cn Lb x.x x.S = true) (h1 : (Zm M (nmX x)).isSome = false) (h2 : ZA x.S ≤ floor) : 4 = Z3a F Cn floor Lb M x := by unfold Z3a; rw [if_pos h, if_neg (by rw [h1]; decide), if_pos h2]
theorem mk7 (h : Z0m F Cn Lb x.x x.S = true) (h1 : (Zm M (nmX x)).isSome = false) (h2 : ¬ ZA x.S ≤ floor) (h3 : 64 ≤ M.length) : 7 = Z3a F Cn floor Lb M x := by unfold Z3a; rw [if_pos h, if_neg (by rw [h1]; decide), if_neg h2, if_pos h3]
theorem mkn (h : Z0m F Cn Lb x.x x.S = true) (h1 : (Zm M (nmX x)).isSome = false) (h2 : ¬ ZA x.S ≤ floor) (h3 : ¬ 64 ≤ M.length) : 0 = Z3a F Cn floor Lb M x := by unfold Z3a; rw [if_pos h, if_neg (by rw [h1]; decide), if_neg h2, if_neg h3]
end
theorem Z6B (w : World) (t tm : Nat) (F Cn rp : Int) (M : List (NmD × CeR)) (B : List Ck) (b mb : Nat) (Lb : List Signed) (hA : (ZL [Z0 t 121 [.int .i64 F, .int .i64 Cn, .int .i64 rp, .map (some tm)], ZQ tm nmV ceV M, ZY B, Z0 b 110 [.map (some mb)], ZQ mb Zz (Value.int .i64) (ZS Lb)]).ok w) (hcT : ∀ q ∈ M, CeT B q.2) (hlM : M.length ≤ 64) (hrp : 0 ≤ rp ∧ rp ≤ 1000000) (hnb : Lb.Nodup) (hlb : Lb.length ≤ 100000) (hF : -1099511627776 ≤ F ∧ F ≤ 1099511627776) (floor : Int) (x : CeR) (hxT : CeT B x) :
  Calls Tryz.prog 23 #[(.pointer (some ⟨t, 0, none⟩)), (.pointer (some ⟨b, 0, none⟩)), (.int .u64 (floor)), (.agg ⟨(([(.int .i64 (x.x.cl)), (.int .i64 (x.x.seq))] : List Value) ++ hc x.x.h ++ ([(.int .i64 (x.x.len)), (.int .i64 (x.x.sb)), (.int .i64 (x.x.sm)), (.slice x.sa x.S.length x.sc)] : List Value))⟩)] w fun e w' => ∃ (a : Za) (er : Int) (M' : List (NmD × CeR)) (B' : List Ck) (Lb' : List Signed), e = .returned (.tuple #[.agg ⟨Z0q a⟩, .int .i64 er]) ∧ er = Z3a F Cn floor Lb M x ∧ (er = 0 → a = Z9n rp Lb x ∧ Lb' = Zp Lb (Z9o rp x)) ∧ (¬ er = 0 → Lb' = Lb) ∧ ((M' = M ∧ B' = B ∧ (er = 0 → (Zm M (nmX x)).isSome = true) ∧ (¬ er = 0 → a = Ze)) ∨ ((er = 0 ∧ Z0m F Cn Lb x.x x.S = true) ∧ (Zm M (nmX x)).isSome = false ∧ ∃ (sa : Option Addr) (sc : Nat), M' = Z3q M (nmX x) ⟨x.x, sa, sc, x.S⟩ ∧ B' = stC ⟨x.x, sa, sc, x.S⟩ :: B)) ∧ Sat w [Z0 t 121 [.int .i64 F, .int .i64 Cn, .int .i64 rp, .map (some tm)], ZQ tm nmV ceV M', ZY B', Z0 b 110 [.map (some mb)], ZQ mb Zz (Value.int .i64) (ZS Lb'), Z7 w (ZL [Z0 t 121 [.int .i64 F, .int .i64 Cn, .int .i64 rp, .map (some tm)], ZQ tm nmV ceV M, ZY B, Z0 b 110 [.map (some mb)], ZQ mb Zz (Value.int .i64) (ZS Lb)]).fp] w' := by
 have H := Sat.start0 w
 have hxx := hxT.x
 unfold CoB at hxx
 have htl := Z7d hxT
 have H := Sat.start _ hA
 refine Zh Tryz.func23 rfl 79 rfl (Nat.le_of_ble_eq_true rfl) ?_
 apply zsl
 refine zwd fun Kq kq => ?_
 refine zdb (Z3o x) H ?_
 intro b2 w3 H4
 refine kq _ _ ?_
 clear kq Kq
 refine zwd fun Kq kq => ?_
 refine zda (Z2c) H4 ?_
 intro b6 w7 H8
 refine kq _ _ ?_
 clear kq Kq
 refine wv 9 (.int .i64 (0)) ?_
 apply znt
 apply Zd
 apply Zd
 refine zqs H8 ?_
 refine qv 12 (pt t 0) ?_
 refine qv 13 (pt t 0) ?_
 refine qv 14 (pt t 0) ?_
 refine qv 15 (.agg ⟨(Z6v F Cn)⟩) ?_ (hr := fun _ H' => (Zi (vs := (Z6v F Cn)) rfl (by kernel_rfl) (by kernel_rfl) (by exact Nat.le_of_ble_eq_true (by kernel_rfl)) (H'.at 0 rfl) (by kernel_rfl)))
 refine qv 16 (pt b 0) ?_
 refine qv 17 (.agg ⟨(Z3o x)⟩) ?_ (hr := fun _ H' => (Zi (vs := (Z3o x)) rfl (by kernel_rfl) (by kernel_rfl) (by exact Nat.le_of_ble_eq_true (by kernel_rfl)) (H'.at 6 rfl) (by kernel_rfl)))
 refine Z1R (Z1 rfl) (d := 18) (v := (.bool (Z0m F Cn Lb x.x x.S))) rfl (fun _ _ => by kernel_rfl) (fun w' H' => (Z8H w' F Cn hF b mb Lb (H'.at 3 rfl) (H'.at 4 rfl) x.x hxx.1 x.sa x.sc x.S (Z21 (c := x) (H'.at 2 rfl) hxT.bag) (fun i hi => (hxT.S i hi).1) (Nat.le_trans hxT.len (by decide))).mono fun _ _ h => ⟨h.1, H'.keepU h.2⟩) ?_
 refine qv 19 (.bool (!(Z0m F Cn Lb x.x x.S))) ?_
 refine Z1a ?_
 intro w9 H10
 apply ztn
 refine (Zr (!(Z0m F Cn Lb x.x x.S))).elim (fun b11 => ?_) (fun b11 => ?_)
 ·have g12 := ZU b11
  refine Z1V _ b11 ?_
  apply zsl
  refine wv 20 (.agg ⟨(Z2c)⟩) ?_
  refine zwd fun Kq kq => ?_
  refine Z1F (Z2c) H10 7 ?_
  intro w15 H16
  refine kq _ _ ?_
  clear kq Kq
  refine wv 9 (.int .i64 (3)) ?_
  apply znt
  apply ZI
  apply ZG
  refine Z4r rfl (ZZ (vs := (Z2c)) rfl (by kernel_rfl) (by kernel_rfl) (by exact Nat.le_of_ble_eq_true (by kernel_rfl)) (H16.at 7 rfl) (by kernel_rfl)) (ZT (v := (.int .i64 (3))) rfl) ?_
  exact ⟨Ze, 3, M, B, Lb, rfl, (mk3 (by have q := b11; simpa using q)), (fun h => absurd h (by decide)), (fun _ => rfl), (.inl ⟨rfl, rfl, (fun h => absurd h (by decide)), (fun _ => rfl)⟩), H16.pk [0, 1, 2, 3, 4, 5]⟩
 have g18 := Zj b11
 refine Z1w _ b11 ?_
 apply ZW
 apply ztn
 apply Zd
 apply Zd
 refine Z08 H10 [Z0 t 121 (Z8V F Cn rp tm), ZQ tm nmV ceV M, ZY B, Z0 b 110 (Z8W mb), (Z6u mb Lb), Z7 w (ZL [Z0 t 121 [.int .i64 F, .int .i64 Cn, .int .i64 rp, .map (some tm)], ZQ tm nmV ceV M, ZY B, Z0 b 110 [.map (some mb)], (Z6u mb Lb)]).fp, Z0 b2 53 (Z3o x), Z0 b6 31 (Z2c)] 14 rfl (by kernel_rfl) (fun Hx => (Hx.pk [0, 1, 2, 3, 4, 5, 6, 7])) ?_
 intro w20 H21 S22
 refine hv0 0 S22 22 (pt t 0) ?_
 refine hv0 1 S22 23 (pt t 0) ?_
 refine hv0 2 S22 24 (pt t 3) ?_
 refine hv0 3 S22 25 (.map (some tm)) ?_ (he := fun _ H' => (Z8 rfl (by kernel_rfl) (H'.cell 0 rfl rfl)))
 refine hv0 4 S22 26 (pt b2 0) ?_
 refine hv0 5 S22 27 (pt b2 0) ?_
 refine hv0 6 S22 28 (.agg ⟨(Z6v x.x.cl x.x.seq)⟩) ?_ (he := fun _ H' => (Zi (vs := (Z6v x.x.cl x.x.seq)) rfl (by kernel_rfl) (by kernel_rfl) (by exact Nat.le_of_ble_eq_true (by kernel_rfl)) (H'.at 6 rfl) (by kernel_rfl)))
 refine hv0 7 S22 29 (.tuple #[(.agg ⟨(Z5G (((Zm M (⟨x.x.cl, x.x.seq⟩ : NmD)).getD ce0).x) (((Zm M (⟨x.x.cl, x.x.seq⟩ : NmD)).getD ce0).sa) (((Zm M (⟨x.x.cl, x.x.seq⟩ : NmD)).getD ce0).S.length) (((Zm M (⟨x.x.cl, x.x.seq⟩ : NmD)).getD ce0).sc))⟩), (.bool ((Zm M (⟨x.x.cl, x.x.seq⟩ : NmD)).isSome))]) ?_ (he := fun _ H' => (Z7p (kt := 24) (et := 53) nmK (by kernel_rfl) Zbg rfl (⟨x.x.cl, x.x.seq⟩ : NmD) rfl (H'.at 1 rfl) (ZcH ceV _ _) rfl))
 refine hv0 8 S22 21 (.tuple #[(.agg ⟨(Z5G (((Zm M (⟨x.x.cl, x.x.seq⟩ : NmD)).getD ce0).x) (((Zm M (⟨x.x.cl, x.x.seq⟩ : NmD)).getD ce0).sa) (((Zm M (⟨x.x.cl, x.x.seq⟩ : NmD)).getD ce0).S.length) (((Zm M (⟨x.x.cl, x.x.seq⟩ : NmD)).getD ce0).sc))⟩), (.bool ((Zm M (⟨x.x.cl, x.x.seq⟩ : NmD)).isSome))]) ?_
 refine hv0 9 S22 30 (.agg ⟨(Z5G (((Zm M (⟨x.x.cl, x.x.seq⟩ : NmD)).getD ce0).x) (((Zm M (⟨x.x.cl, x.x.seq⟩ : NmD)).getD ce0).sa) (((Zm M (⟨x.x.cl, x.x.seq⟩ : NmD)).getD ce0).S.length) (((Zm M (⟨x.x.cl, x.x.seq⟩ : NmD)).getD ce0).sc))⟩) ?_
 refine hv0 10 S22 31 (.bool ((Zm M (⟨x.x.cl, x.x.seq⟩ : NmD)).isSome)) ?_
 refine Z0j 11 fun Kq kq => ?_
 refine zda (kLtT_7) H21 ?_
 intro b24 w25 H26
 have S27 := H26.pk [0, 1, 2, 3, 4, 5, 6, 7]
 refine kq _ _ S27 ?_
 clear kq Kq
 refine Z0j 12 fun Kq kq => ?_
 refine Z1F (Z5G (((Zm M (⟨x.x.cl, x.x.seq⟩ : NmD)).getD ce0).x) (((Zm M (⟨x.x.cl, x.x.seq⟩ : NmD)).getD ce0).sa) (((Zm M (⟨x.x.cl, x.x.seq⟩ : NmD)).getD ce0).S.length) (((Zm M (⟨x.x.cl, x.x.seq⟩ : NmD)).getD ce0).sc)) H26 8 ?_
 intro w29 H30
 have S32 := H30.pk [0, 1, 2, 3, 4, 5, 6, 7]
 refine kq _ _ S32 ?_
 clear kq Kq
 refine hv0 13 S32 11 (.bool ((Zm M (⟨x.x.cl, x.x.seq⟩ : NmD)).isSome)) ?_
 refine zhf ?_
 apply ztn
 apply zsl
 refine wv 32 (.bool ((Zm M (⟨x.x.cl, x.x.seq⟩ : NmD)).isSome)) ?_
 apply znt
 refine (Zr ((Zm M (⟨x.x.cl, x.x.seq⟩ : NmD)).isSome)).elim (fun b33 => ?_) (fun b33 => ?_)
 ·refine Z1V _ b33 ?_
  apply Zd
  apply Zd
  refine zqs H30 ?_
  refine qv 33 (pt b24 0) ?_
  refine qv 34 (pt b24 2) ?_
  refine qv 35 (.agg ⟨(hc ((Zm M (⟨x.x.cl, x.x.seq⟩ : NmD)).getD ce0).x.h)⟩) ?_ (hr := fun _ H' => (Zi (vs := (hc ((Zm M (⟨x.x.cl, x.x.seq⟩ : NmD)).getD ce0).x.h)) rfl (by kernel_rfl) (by kernel_rfl) (by exact Nat.le_of_ble_eq_true (by kernel_rfl)) (H'.at 8 rfl) (by kernel_rfl)))
  refine qv 36 (pt b2 0) ?_
  refine qv 37 (pt b2 2) ?_
  refine qv 38 (.agg ⟨(hc x.x.h)⟩) ?_ (hr := fun _ H' => (Zi (vs := (hc x.x.h)) rfl (by kernel_rfl) (by kernel_rfl) (by exact Nat.le_of_ble_eq_true (by kernel_rfl)) (H'.at 6 rfl) (by kernel_rfl)))
  refine qv 39 (.bool (!(decide ((((Zm M (⟨x.x.cl, x.x.seq⟩ : NmD)).getD ce0).x.h) = x.x.h)))) ?_ (hr := fun _ H' => (Z3O (((Zm M (⟨x.x.cl, x.x.seq⟩ : NmD)).getD ce0).x.h) x.x.h rfl rfl))
  refine qv 40 (.bool (!(decide ((((Zm M (⟨x.x.cl, x.x.seq⟩ : NmD)).getD ce0).x.h) = x.x.h)))) ?_
  refine (Zr (!(decide ((((Zm M (⟨x.x.cl, x.x.seq⟩ : NmD)).getD ce0).x.h) = x.x.h)))).elim (fun b34 => ?_) (fun b34 => ?_)
  ·have g35 := ZU b34
   have g36 := of_decide_eq_false g35
   refine Z0P 40 (.bool true) (congrArg Value.bool b34) ?_
   iterate 5 refine qn 7 40 false ?_
   refine qv 46 (.bool true) ?_
   refine Z1a ?_
   intro w39 H40
   apply ztn
   refine Z0S rfl ?_
   apply zsl
   refine wv 47 (.agg ⟨(Z2c)⟩) ?_
   refine zwd fun Kq kq => ?_
   refine Z1F (Z2c) H40 7 ?_
   intro w42 H43
   refine kq _ _ ?_
   clear kq Kq
   refine wv 9 (.int .i64 (5)) ?_
   apply znt
   apply ZI
   apply ZG
   apply ZG
   refine Z4r rfl (ZZ (vs := (Z2c)) rfl (by kernel_rfl) (by kernel_rfl) (by exact Nat.le_of_ble_eq_true (by kernel_rfl)) (H43.at 7 rfl) (by kernel_rfl)) (ZT (v := (.int .i64 (5))) rfl) ?_
   exact ⟨Ze, 5, M, B, Lb, rfl, (mk5 (by have q := b11; simpa using q) b33 (by rintro ⟨q1, q2⟩; simp only [nmX] at q1 q2; simp [q1, q2] at b34)), (fun h => absurd h (by decide)), (fun _ => rfl), (.inl ⟨rfl, rfl, (fun h => absurd h (by decide)), (fun _ => rfl)⟩), H43.pk [0, 1, 2, 3, 4, 5]⟩
  have g45 := Zj b34
  have g46 := of_decide_eq_true g45
  refine Z0P 40 (.bool false) (congrArg Value.bool b34) ?_
  refine qy 7 40 false 41 (.agg ⟨(Z5G (((Zm M (⟨x.x.cl, x.x.seq⟩ : NmD)).getD ce0).x) (((Zm M (⟨x.x.cl, x.x.seq⟩ : NmD)).getD ce0).sa) (((Zm M (⟨x.x.cl, x.x.seq⟩ : NmD)).getD ce0).S.length) (((Zm M (⟨x.x.cl, x.x.seq⟩ : NmD)).getD ce0).sc))⟩) ?_ (hr := fun _ H' => (Zi (vs := (Z5G (((Zm M (⟨x.x.cl, x.x.seq⟩ : NmD)).getD ce0).x) (((Zm M (⟨x.x.cl, x.x.seq⟩ : NmD)).getD ce0).sa) (((Zm M (⟨x.x.cl, x.x.seq⟩ : NmD)).getD ce0).S.length) (((Zm M (⟨x.x.cl, x.x.seq⟩ : NmD)).getD ce0).sc))) rfl (by kernel_rfl) (by kernel_rfl) (by exact Nat.le_of_ble_eq_true (by kernel_rfl)) (H'.at 8 rfl) (by kernel_rfl)))
  refine Z1R (ZD 7 40 false rfl (by kernel_rfl) rfl (by kernel_rfl)) (d := 42) (v := (.int .u64 (ZA (((Zm M (⟨x.x.cl, x.x.seq⟩ : NmD)).getD ce0).S)))) rfl (fun _ _ => by kernel_rfl) (fun w' H' => (Z3c w' ((Zm M (⟨x.x.cl, x.x.seq⟩ : NmD)).getD ce0).x ((Zm M (⟨x.x.cl, x.x.seq⟩ : NmD)).getD ce0).sa ((Zm M (⟨x.x.cl, x.x.seq⟩ : NmD)).getD ce0).sc (((Zm M (⟨x.x.cl, x.x.seq⟩ : NmD)).getD ce0).S) (Z21 (c := ((Zm M (⟨x.x.cl, x.x.seq⟩ : NmD)).getD ce0)) (H'.at 2 rfl) (Z75 hcT b33).bag) (Z75 hcT b33).len).mono fun _ _ h => ⟨h.1, H'.keepU h.2⟩) ?_
  refine qy 7 40 false 43 (.agg ⟨(Z3o x)⟩) ?_ (hr := fun _ H' => (Zi (vs := (Z3o x)) rfl (by kernel_rfl) (by kernel_rfl) (by exact Nat.le_of_ble_eq_true (by kernel_rfl)) (H'.at 6 rfl) (by kernel_rfl)))
  refine Z1R (ZD 7 40 false rfl (by kernel_rfl) rfl (by kernel_rfl)) (d := 44) (v := (.int .u64 (ZA x.S))) rfl (fun _ _ => by kernel_rfl) (fun w' H' => (Z3c w' x.x x.sa x.sc x.S (Z21 (c := x) (H'.at 2 rfl) hxT.bag) hxT.len).mono fun _ _ h => ⟨h.1, H'.keepU h.2⟩) ?_
  refine qy 7 40 false 45 (.bool (!(decide ((ZA (((Zm M (⟨x.x.cl, x.x.seq⟩ : NmD)).getD ce0).S)) = (ZA x.S))))) ?_
  refine qv 46 (.bool (!(decide ((ZA (((Zm M (⟨x.x.cl, x.x.seq⟩ : NmD)).getD ce0).S)) = (ZA x.S))))) ?_
  refine Z1a ?_
  intro w49 H50
  apply ztn
  refine (Zr (!(decide ((ZA (((Zm M (⟨x.x.cl, x.x.seq⟩ : NmD)).getD ce0).S)) = (ZA x.S))))).elim (fun b51 => ?_) (fun b51 => ?_)
  ·have g52 := ZU b51
   have g53 := of_decide_eq_false g52
   refine Z1V _ b51 ?_
   apply zsl
   refine wv 47 (.agg ⟨(Z2c)⟩) ?_
   refine zwd fun Kq kq => ?_
   refine Z1F (Z2c) H50 7 ?_
   intro w57 H58
   refine kq _ _ ?_
   clear kq Kq
   refine wv 9 (.int .i64 (5)) ?_
   apply znt
   apply ZI
   apply ZG
   apply ZG
   refine Z4r rfl (ZZ (vs := (Z2c)) rfl (by kernel_rfl) (by kernel_rfl) (by exact Nat.le_of_ble_eq_true (by kernel_rfl)) (H58.at 7 rfl) (by kernel_rfl)) (ZT (v := (.int .i64 (5))) rfl) ?_
   exact ⟨Ze, 5, M, B, Lb, rfl, (mk5 (by have q := b11; simpa using q) b33 (by rintro ⟨q1, q2⟩; simp only [nmX] at q1 q2; simp [q1, q2] at b34 b51)), (fun h => absurd h (by decide)), (fun _ => rfl), (.inl ⟨rfl, rfl, (fun h => absurd h (by decide)), (fun _ => rfl)⟩), H58.pk [0, 1, 2, 3, 4, 5]⟩
  have g60 := Zj b51
  have g61 := of_decide_eq_true g60
  refine Z1w _ b51 ?_
  apply ZW
  apply ztn
  apply zsl
  refine wv 48 (pt t 0) ?_
  refine wv 49 (pt b 0) ?_
  refine zwN 50 (Z3o x) (H50.at 6 rfl) ?_
  refine zwd fun Kq kq => ?_
  refine zdc 51 (Z7F w49 t F Cn rp tm B b mb Lb (H50.fn [0, 2, 3, 4]) hrp hlb x hxT) ?_
  rintro _ w65 ⟨rfl, T66⟩
  have H67 := H50.tl [Z0 t 121 (Z8V F Cn rp tm), ZY B, Z0 b 110 (Z8W mb), (Z6u mb (Zp Lb (Z9o rp x)))] [0, 2, 3, 4] [1, 5, 6, 7, 8] T66 [0, 4, 1, 2, 3, 5, 6, 7, 8]
  refine ⟨_, rfl, ?_⟩
  refine kq _ _ ?_
  clear kq Kq
  refine zwd fun Kq kq => ?_
  refine Z1F (Z8X (Z9n rp Lb x)) H67 7 ?_
  intro w69 H70
  refine kq _ _ ?_
  clear kq Kq
  refine wv 9 (.int .i64 (0)) ?_
  apply znt
  apply ZI
  apply ZG
  refine Z4r rfl (ZZ (vs := (Z8X (Z9n rp Lb x))) rfl (by kernel_rfl) (by kernel_rfl) (by exact Nat.le_of_ble_eq_true (by kernel_rfl)) (H70.at 7 rfl) (by kernel_rfl)) (ZT (v := (.int .i64 (0))) rfl) ?_
  exact ⟨Z9n rp Lb x, 0, M, B, (Zp Lb (Z9o rp x)), rfl, (mk0 (by have q := b11; simpa using q) b33 (by have q := b34; simpa [nmX] using q) (by have q := b51; simpa [nmX] using q)), (fun _ => ⟨rfl, rfl⟩), (fun h => absurd rfl h), (.inl ⟨rfl, rfl, (fun _ => b33), (fun h => absurd rfl h)⟩), H70.pk [0, 1, 2, 3, 4, 5]⟩
 refine Z1w _ b33 ?_
 apply ZW
 apply ztn
 apply Zd
 apply ZM
 apply zsl
 refine zwN 53 (Z3o x) (H30.at 6 rfl) ?_
 refine zwd fun Kq kq => ?_
 refine zdq 54 (Z3c w29 x.x x.sa x.sc x.S (Z21 (c := x) (H30.at 2 rfl) hxT.bag) hxT.len) H30 ?_
 intro w73 H74
 refine kq _ _ ?_
 clear kq Kq
 refine wv 55 (.int .u64 (floor)) ?_
 refine wv 56 (.bool (decide ((ZA x.S) ≤ floor))) ?_
 refine wv 52 (.bool (decide ((ZA x.S) ≤ floor))) ?_
 apply znt
 refine (Zr (decide ((ZA x.S) ≤ floor))).elim (fun b76 => ?_) (fun b76 => ?_)
 ·have g77 := of_decide_eq_true b76
  refine Z1V _ b76 ?_
  apply zsl
  refine wv 57 (.agg ⟨(Z2c)⟩) ?_
  refine zwd fun Kq kq => ?_
  refine Z1F (Z2c) H74 7 ?_
  intro w80 H81
  refine kq _ _ ?_
  clear kq Kq
  refine wv 9 (.int .i64 (4)) ?_
  apply znt
  apply ZI
  apply Z0e
  apply ZG
  refine Z4r rfl (ZZ (vs := (Z2c)) rfl (by kernel_rfl) (by kernel_rfl) (by exact Nat.le_of_ble_eq_true (by kernel_rfl)) (H81.at 7 rfl) (by kernel_rfl)) (ZT (v := (.int .i64 (4))) rfl) ?_
  exact ⟨Ze, 4, M, B, Lb, rfl, (mk4 (by have q := b11; simpa using q) b33 (of_decide_eq_true b76)), (fun h => absurd h (by decide)), (fun _ => rfl), (.inl ⟨rfl, rfl, (fun h => absurd h (by decide)), (fun _ => rfl)⟩), H81.pk [0, 1, 2, 3, 4, 5]⟩
 have g83 := of_decide_eq_false b76
 refine Z1w _ b76 ?_
 apply zsl
 refine wv 59 (pt t 0) ?_
 refine wv 60 (pt t 0) ?_
 refine wv 61 (pt t 3) ?_
 refine zw1 62 (.map (some tm)) (H74.cell 0 rfl rfl) ?_
 refine wv 63 (.int .i64 (((M).length : Int))) ?_ (hr := Z9t (kt := 24) (et := 53) (by kernel_rfl) (H74.at 1 rfl) rfl)
 refine wv 64 (.bool (decide (((M).length : Int) ≥ 64))) ?_
 refine wv 58 (.bool (decide (((M).length : Int) ≥ 64))) ?_
 apply znt
 refine (Zr (decide (((M).length : Int) ≥ 64))).elim (fun b85 => ?_) (fun b85 => ?_)
 ·have g86 := of_decide_eq_true b85
  refine Z1V _ b85 ?_
  apply zsl
  refine wv 65 (.agg ⟨(Z2c)⟩) ?_
  refine zwd fun Kq kq => ?_
  refine Z1F (Z2c) H74 7 ?_
  intro w89 H90
  refine kq _ _ ?_
  clear kq Kq
  refine wv 9 (.int .i64 (7)) ?_
  apply znt
  apply ZI
  apply Z0e
  apply ZG
  refine Z4r rfl (ZZ (vs := (Z2c)) rfl (by kernel_rfl) (by kernel_rfl) (by exact Nat.le_of_ble_eq_true (by kernel_rfl)) (H90.at 7 rfl) (by kernel_rfl)) (ZT (v := (.int .i64 (7))) rfl) ?_
  exact ⟨Ze, 7, M, B, Lb, rfl, (mk7 (by have q := b11; simpa using q) b33 (of_decide_eq_false b76) (by have q := of_decide_eq_true b85; omega)), (fun h => absurd h (by decide)), (fun _ => rfl), (.inl ⟨rfl, rfl, (fun h => absurd h (by decide)), (fun _ => rfl)⟩), H90.pk [0, 1, 2, 3, 4, 5]⟩
 have g92 := of_decide_eq_false b85
 refine Z1w _ b85 ?_
 apply ZW
 apply Zw
 apply ztn
 apply Zd
 refine Z08 H74 [Z0 t 121 (Z8V F Cn rp tm), ZY B, Z0 b 110 (Z8W mb), (Z6u mb Lb), Z7 w (ZL [Z0 t 121 [.int .i64 F, .int .i64 Cn, .int .i64 rp, .map (some tm)], ZQ tm nmV ceV M, ZY B, Z0 b 110 [.map (some mb)], (Z6u mb Lb)]).fp, Z0 b2 53 (Z3o x), Z0 b6 31 (Z2c), Z0 b24 53 (Z5G (((Zm M (⟨x.x.cl, x.x.seq⟩ : NmD)).getD ce0).x) (((Zm M (⟨x.x.cl, x.x.seq⟩ : NmD)).getD ce0).sa) (((Zm M (⟨x.x.cl, x.x.seq⟩ : NmD)).getD ce0).S.length) (((Zm M (⟨x.x.cl, x.x.seq⟩ : NmD)).getD ce0).sc))] 10 rfl (by kernel_rfl) (fun Hx => (Hx.pk [0, 2, 3, 4, 5, 6, 7, 8])) ?_
 intro w94 H95 S96
 refine hv0 0 S96 66 (pt t 0) ?_
 refine hv0 1 S96 67 (pt t 0) ?_
 refine hv0 2 S96 68 (pt t 3) ?_
 refine hv0 3 S96 69 (.map (some tm)) ?_ (he := fun _ H' => (Z8 rfl (by kernel_rfl) (H'.cell 0 rfl rfl)))
 refine hv0 4 S96 70 (pt b2 0) ?_
 refine hv0 5 S96 71 (pt b2 0) ?_
 refine hv0 6 S96 72 (.agg ⟨(Z6v x.x.cl x.x.seq)⟩) ?_ (he := fun _ H' => (Zi (vs := (Z6v x.x.cl x.x.seq)) rfl (by kernel_rfl) (by kernel_rfl) (by exact Nat.le_of_ble_eq_true (by kernel_rfl)) (H'.at 5 rfl) (by kernel_rfl)))
 refine hv0 7 S96 73 (.agg ⟨(Z3o x)⟩) ?_ (he := fun _ H' => (Zi (vs := (Z3o x)) rfl (by kernel_rfl) (by kernel_rfl) (by exact Nat.le_of_ble_eq_true (by kernel_rfl)) (H'.at 5 rfl) (by kernel_rfl)))
 refine Z0j 8 fun Kq kq => ?_
 refine zdc 74 (Z3w w94 x.x x.sa x.sc x.S ((H95.at 2 rfl : (ZY B).ok _) _ hxT.bag) (Nat.le_trans hxT.len (by decide))) ?_
 rintro _ w98 ⟨u99, rfl, k100, p101, q102⟩
 have H103 := H95.addU p101 k100 q102
 obtain ⟨a104, c105, rfl⟩ := Z6 (H103.at 9 rfl)
 refine ⟨_, rfl, ?_⟩
 have S106 := H103.pk [0, 2, 3, 4, 5, 6, 7, 8]
 refine kq _ _ S106 ?_
 clear kq Kq
 refine Z0j 9 fun Kq kq => ?_
 refine Z5y (kt := 24) (et := 53) rfl H103 1 rfl nmK (by kernel_rfl) rfl (⟨x.x.cl, x.x.seq⟩ : NmD) rfl (⟨x.x, a104, c105, x.S⟩ : CeR) rfl ?_
 intro w108 H109
 have S110 := H109.pk [0, 2, 3, 4, 5, 6, 7, 8]
 refine kq _ _ S110 ?_
 clear kq Kq
 refine zhf ?_
 apply ztn
 apply Zd
 have H111 := (H109.pk [2, 9, 0, 1, 3, 4, 5, 6, 7, 8]).bag
 have H112 := H111.pk [1, 2, 0, 3, 4, 5, 6, 7, 8]
 apply Zq
 refine wv 75 (pt t 0) ?_
 refine wv 76 (pt b 0) ?_
 refine zwN 77 (Z3o x) (H112.at 6 rfl) ?_
 refine zwd fun Kq kq => ?_
 refine zdc 78 (Z7F w108 t F Cn rp tm (stC (⟨x.x, a104, c105, x.S⟩ : CeR) :: B) b mb Lb (H112.fn [0, 2, 3, 4]) hrp hlb x (hxT.more _)) ?_
 rintro _ w114 ⟨rfl, T115⟩
 have H116 := H112.tl [Z0 t 121 (Z8V F Cn rp tm), ZY (stC (⟨x.x, a104, c105, x.S⟩ : CeR) :: B), Z0 b 110 (Z8W mb), (Z6u mb (Zp Lb (Z9o rp x)))] [0, 2, 3, 4] [1, 5, 6, 7, 8] T115 [0, 4, 1, 2, 3, 5, 6, 7, 8]
 refine ⟨_, rfl, ?_⟩
 refine kq _ _ ?_
 clear kq Kq
 refine zwd fun Kq kq => ?_
 refine Z1F (Z8X (Z9n rp Lb x)) H116 7 ?_
 intro w118 H119
 refine kq _ _ ?_
 clear kq Kq
 refine wv 9 (.int .i64 (0)) ?_
 apply znt
 apply ZI
 refine Z4r rfl (ZZ (vs := (Z8X (Z9n rp Lb x))) rfl (by kernel_rfl) (by kernel_rfl) (by exact Nat.le_of_ble_eq_true (by kernel_rfl)) (H119.at 7 rfl) (by kernel_rfl)) (ZT (v := (.int .i64 (0))) rfl) ?_
 exact ⟨Z9n rp Lb x, 0, (Z3q M (⟨x.x.cl, x.x.seq⟩ : NmD) (⟨x.x, a104, c105, x.S⟩ : CeR)), (stC (⟨x.x, a104, c105, x.S⟩ : CeR) :: B), (Zp Lb (Z9o rp x)), rfl, (mkn (by have q := b11; simpa using q) b33 (of_decide_eq_false b76) (by have q := of_decide_eq_false b85; omega)), (fun _ => ⟨rfl, rfl⟩), (fun h => absurd rfl h), (.inr ⟨⟨rfl, (by have q := b11; simpa using q)⟩, b33, (⟨x.x, a104, c105, x.S⟩ : CeR).sa, (⟨x.x, a104, c105, x.S⟩ : CeR).sc, rfl, rfl⟩), H119.pk [0, 1, 2, 3, 4, 5]⟩
end Go.Proofs.YtoaifondpohniaaGreat
