/- WHAT IS PROVED: contracts and plain laws of LtT. Conditions: stated with each. -/
import Derived.Test.YtoaifondpohniaaGreatMT24
set_option maxHeartbeats 4000000
set_option maxRecDepth 100000
namespace Go.Proofs.YtoaifondpohniaaGreat
open Go.RowKit
def nmX (x : CeR) : NmD := ⟨x.x.cl, x.x.seq⟩
section
variable {B : List Ck} {A : Ck} {c x : CeR} {M : List (NmD × CeR)} {a : NmD} {w : World} {F Cn floor : Int} {Lb : List Signed}
theorem CeT.more (h : CeT B c) (A : Ck) : CeT (A :: B) c := ⟨h.x, h.S, h.len, List.mem_cons_of_mem _ h.bag⟩
theorem Z5h (h : ∀ q ∈ M, CeT B q.2) (hs : (Z6 M a).isSome = true) : CeT B ((Z6 M a).getD ce0) := by
 obtain ⟨v, hv⟩ := Option.isSome_iff_exists.1 hs
 rw [hv]
 exact h _ (Z5Y hv)
noncomputable def Z2G (F Cn floor : Int) (Lb : List Signed) (M : List (NmD × CeR)) (x : CeR) : Int :=
 if Z08 F Cn Lb x.x x.S = true then
  if (Z6 M (nmX x)).isSome = true then
   if ((Z6 M (nmX x)).getD ce0).x.h = x.x.h ∧ Z8 ((Z6 M (nmX x)).getD ce0).S = Z8 x.S then 0 else 5
  else if Z8 x.S ≤ floor then 4 else if 64 ≤ M.length then 7 else 0
 else 3
theorem mk3 (h : Z08 F Cn Lb x.x x.S = false) : 3 = Z2G F Cn floor Lb M x := by unfold Z2G; rw [if_neg (by rw [h]; decide)]
theorem mk5 (h : Z08 F Cn Lb x.x x.S = true) (h1 : (Z6 M (nmX x)).isSome = true) (h2 : ¬ (((Z6 M (nmX x)).getD ce0).x.h = x.x.h ∧ Z8 ((Z6 M (nmX x)).getD ce0).S = Z8 x.S)) : 5 = Z2G F Cn floor Lb M x := by unfold Z2G; rw [if_pos h, if_pos h1, if_neg h2]
theorem mk0 (h : Z08 F Cn Lb x.x x.S = true) (h1 : (Z6 M (nmX x)).isSome = true) (h2 : ((Z6 M (nmX x)).getD ce0).x.h = x.x.h) (h3 : Z8 ((Z6 M (nmX x)).getD ce0).S = Z8 x.S) : 0 = Z2G F Cn floor Lb M x := by unfold Z2G; rw [if_pos h, if_pos h1, if_pos ⟨h2, h3⟩]
theorem mk4 (h : Z08 F Cn Lb x.x x.S = true) (h1 : (Z6 M (nmX x)).isSome = false) (h2 : Z8 x.S ≤ floor) : 4 = Z2G F Cn floor Lb M x := by unfold Z2G; rw [if_pos h, if_neg (by rw [h1]; decide), if_pos h2]
theorem mk7 (h : Z08 F Cn Lb x.x x.S = true) (h1 : (Z6 M (nmX x)).isSome = false) (h2 : ¬ Z8 x.S ≤ floor) (h3 : 64 ≤ M.length) : 7 = Z2G F Cn floor Lb M x := by unfold Z2G; rw [if_pos h, if_neg (by rw [h1]; decide), if_neg h2, if_pos h3]
theorem mkn (h : Z08 F Cn Lb x.x x.S = true) (h1 : (Z6 M (nmX x)).isSome = false) (h2 : ¬ Z8 x.S ≤ floor) (h3 : ¬ 64 ≤ M.length) : 0 = Z2G F Cn floor Lb M x := by unfold Z2G; rw [if_pos h, if_neg (by rw [h1]; decide), if_neg h2, if_neg h3]
end
theorem Z1r (w : World) (t tm : Nat) (F Cn rp : Int) (M : List (NmD × CeR)) (B : List Ck) (b mb : Nat) (Lb : List Signed) (hA : (ZI [Z1 t 121 [.int .i64 F, .int .i64 Cn, .int .i64 rp, .map (some tm)], ZA tm nmV ceV M, ZL B, Z1 b 110 [.map (some mb)], ZA mb Z7 (Value.int .i64) (Zh Lb)]).ok w) (hcT : ∀ q ∈ M, CeT B q.2) (hlM : M.length ≤ 64) (hrp : 0 ≤ rp ∧ rp ≤ 1000000) (hnb : Lb.Nodup) (hlb : Lb.length ≤ 100000) (hF : -1099511627776 ≤ F ∧ F ≤ 1099511627776) (floor : Int) (x : CeR) (hxT : CeT B x) :
  Calls Tryz.prog 23 #[(.pointer (some ⟨t, 0, none⟩)), (.pointer (some ⟨b, 0, none⟩)), (.int .u64 (floor)), (.agg ⟨(([(.int .i64 (x.x.cl)), (.int .i64 (x.x.seq))] : List Value) ++ hc x.x.h ++ ([(.int .i64 (x.x.len)), (.int .i64 (x.x.sb)), (.int .i64 (x.x.sm)), (.slice x.sa x.S.length x.sc)] : List Value))⟩)] w fun e w' => ∃ (a : Ze) (er : Int) (M' : List (NmD × CeR)) (B' : List Ck) (Lb' : List Signed), e = .returned (.tuple #[.agg ⟨Z0o a⟩, .int .i64 er]) ∧ er = Z2G F Cn floor Lb M x ∧ (er = 0 → a = Z1t rp Lb x ∧ Lb' = Zg Lb (Z68 rp x)) ∧ (¬ er = 0 → Lb' = Lb) ∧ ((M' = M ∧ B' = B ∧ (er = 0 → (Z6 M (nmX x)).isSome = true) ∧ (¬ er = 0 → a = Zf)) ∨ ((er = 0 ∧ Z08 F Cn Lb x.x x.S = true) ∧ (Z6 M (nmX x)).isSome = false ∧ ∃ (sa : Option Addr) (sc : Nat), M' = Z2r M (nmX x) ⟨x.x, sa, sc, x.S⟩ ∧ B' = stC ⟨x.x, sa, sc, x.S⟩ :: B)) ∧ Sat w [Z1 t 121 [.int .i64 F, .int .i64 Cn, .int .i64 rp, .map (some tm)], ZA tm nmV ceV M', ZL B', Z1 b 110 [.map (some mb)], ZA mb Z7 (Value.int .i64) (Zh Lb'), Z5 w (ZI [Z1 t 121 [.int .i64 F, .int .i64 Cn, .int .i64 rp, .map (some tm)], ZA tm nmV ceV M, ZL B, Z1 b 110 [.map (some mb)], ZA mb Z7 (Value.int .i64) (Zh Lb)]).fp] w' := by
 have H := Sat.start0 w
 have hxx := hxT.x
 unfold CoB at hxx
 have htl := Z72 hxT
 have H : Sat w [Z1 t 121 ([(.int .i64 (F)), (.int .i64 (Cn)), (.int .i64 (rp)), (.map (some tm))] : List Value), ZA tm nmV ceV M, ZL B, Z1 b 110 ([(.map (some mb))] : List Value), ZA mb Z7 (Value.int .i64) (Zh Lb), Z5 w (ZI [Z1 t 121 [.int .i64 F, .int .i64 Cn, .int .i64 rp, .map (some tm)], ZA tm nmV ceV M, ZL B, Z1 b 110 [.map (some mb)], ZA mb Z7 (Value.int .i64) (Zh Lb)]).fp] w := Sat.start _ hA
 refine Zr Tryz.func23 rfl 79 rfl (Nat.le_of_ble_eq_true rfl) ?_
 refine Zb ?_
 refine Zl ?_
 refine ZQ (Z0 rfl) (fun K1 hK1 => ?_)
 refine Z1F (vs := (([(.int .i64 (x.x.cl)), (.int .i64 (x.x.seq))] : List Value) ++ hc x.x.h ++ ([(.int .i64 (x.x.len)), (.int .i64 (x.x.sb)), (.int .i64 (x.x.sm)), (.slice x.sa x.S.length x.sc)] : List Value))) rfl H rfl rfl ?_
 intro b2 w3 (H4 : Sat w [Z1 t 121 ([(.int .i64 (F)), (.int .i64 (Cn)), (.int .i64 (rp)), (.map (some tm))] : List Value), ZA tm nmV ceV M, ZL B, Z1 b 110 ([(.map (some mb))] : List Value), ZA mb Z7 (Value.int .i64) (Zh Lb), Z5 w (ZI [Z1 t 121 [.int .i64 F, .int .i64 Cn, .int .i64 rp, .map (some tm)], ZA tm nmV ceV M, ZL B, Z1 b 110 [.map (some mb)], ZA mb Z7 (Value.int .i64) (Zh Lb)]).fp, Z1 b2 53 (([(.int .i64 (x.x.cl)), (.int .i64 (x.x.seq))] : List Value) ++ hc x.x.h ++ ([(.int .i64 (x.x.len)), (.int .i64 (x.x.sb)), (.int .i64 (x.x.sm)), (.slice x.sa x.S.length x.sc)] : List Value))] w3)
 refine hK1 _ _ ?_
 clear hK1 K1
 refine ZQ (Z0 rfl) (fun K5 hK5 => ?_)
 refine Z19 (zs := (([(.int .i64 (0)), (.int .i64 (0)), (.int .i64 (0))] : List Value) ++ hc Zt ++ ([(.int .u64 (0)), (.int .i64 (0)), (.int .i64 (0))] : List Value))) (z := (.agg ⟨(([(.int .i64 (0)), (.int .i64 (0)), (.int .i64 (0))] : List Value) ++ hc Zt ++ ([(.int .u64 (0)), (.int .i64 (0)), (.int .i64 (0))] : List Value))⟩)) rfl H4 (by kernel_rfl) (by kernel_rfl) ?_
 intro b6 w7 (H8 : Sat w [Z1 t 121 ([(.int .i64 (F)), (.int .i64 (Cn)), (.int .i64 (rp)), (.map (some tm))] : List Value), ZA tm nmV ceV M, ZL B, Z1 b 110 ([(.map (some mb))] : List Value), ZA mb Z7 (Value.int .i64) (Zh Lb), Z5 w (ZI [Z1 t 121 [.int .i64 F, .int .i64 Cn, .int .i64 rp, .map (some tm)], ZA tm nmV ceV M, ZL B, Z1 b 110 [.map (some mb)], ZA mb Z7 (Value.int .i64) (Zh Lb)]).fp, Z1 b2 53 (([(.int .i64 (x.x.cl)), (.int .i64 (x.x.seq))] : List Value) ++ hc x.x.h ++ ([(.int .i64 (x.x.len)), (.int .i64 (x.x.sb)), (.int .i64 (x.x.sm)), (.slice x.sa x.S.length x.sc)] : List Value)), Z1 b6 31 (([(.int .i64 (0)), (.int .i64 (0)), (.int .i64 (0))] : List Value) ++ hc Zt ++ ([(.int .u64 (0)), (.int .i64 (0)), (.int .i64 (0))] : List Value))] w7)
 refine hK5 _ _ ?_
 clear hK5 K5
 refine Z3 (Z0 rfl) (d := 9) (v := (.int .i64 (0))) rfl (by kernel_rfl) ?_
 refine Zi ?_
 refine Z4 ?_
 refine Zb ?_
 refine Zb ?_
 refine Z2k H8 (by kernel_rfl) (by kernel_rfl) ?_
 refine ZT (Z0 rfl) (d := 12) (v := (.pointer (some ⟨t, 0, none⟩))) rfl (fun _ H' => (by kernel_rfl)) ?_
 refine ZT (Z0 rfl) (d := 13) (v := (.pointer (some ⟨t, 0, none⟩))) rfl (fun _ H' => (by kernel_rfl)) ?_
 refine ZT (Z0 rfl) (d := 14) (v := (.pointer (some ⟨t, 0, none⟩))) rfl (fun _ H' => (by kernel_rfl)) ?_
 refine ZT (Z0 rfl) (d := 15) (v := (.agg ⟨([(.int .i64 (F)), (.int .i64 (Cn))] : List Value)⟩)) rfl (fun _ H' => (Zs (vs := ([(.int .i64 (F)), (.int .i64 (Cn))] : List Value)) rfl (by kernel_rfl) (by kernel_rfl) (by exact Nat.le_of_ble_eq_true (by kernel_rfl)) (H'.at 0 rfl) (by kernel_rfl))) ?_
 refine ZT (Z0 rfl) (d := 16) (v := (.pointer (some ⟨b, 0, none⟩))) rfl (fun _ H' => (by kernel_rfl)) ?_
 refine ZT (Z0 rfl) (d := 17) (v := (.agg ⟨(([(.int .i64 (x.x.cl)), (.int .i64 (x.x.seq))] : List Value) ++ hc x.x.h ++ ([(.int .i64 (x.x.len)), (.int .i64 (x.x.sb)), (.int .i64 (x.x.sm)), (.slice x.sa x.S.length x.sc)] : List Value))⟩)) rfl (fun _ H' => (Zs (vs := (([(.int .i64 (x.x.cl)), (.int .i64 (x.x.seq))] : List Value) ++ hc x.x.h ++ ([(.int .i64 (x.x.len)), (.int .i64 (x.x.sb)), (.int .i64 (x.x.sm)), (.slice x.sa x.S.length x.sc)] : List Value))) rfl (by kernel_rfl) (by kernel_rfl) (by exact Nat.le_of_ble_eq_true (by kernel_rfl)) (H'.at 6 rfl) (by kernel_rfl))) ?_
 refine Z1E (Z0 rfl) (d := 18) (v := (.bool (Z08 F Cn Lb x.x x.S))) rfl (fun _ _ => by kernel_rfl) (fun w' H' => (Z37 w' F Cn hF b mb Lb (H'.at 3 rfl) (H'.at 4 rfl) x.x hxx.1 x.sa x.sc x.S (Z3g (c := x) (H'.at 2 rfl) hxT.bag) (fun i hi => (hxT.S i hi).1) (Nat.le_trans hxT.len (by decide))).mono fun _ _ h => ⟨h.1, H'.keepU h.2⟩) ?_
 refine ZT (Z0 rfl) (d := 19) (v := (.bool (!(Z08 F Cn Lb x.x x.S)))) rfl (fun _ H' => (by kernel_rfl)) ?_
 refine Z1Q ?_
 intro w9 H10
 refine Z4 ?_
 refine (ZD (!(Z08 F Cn Lb x.x x.S))).elim (fun b11 => ?_) (fun b11 => ?_)
 ·have g12 := ZW b11
  refine Zj 19 (.bool true) (congrArg Value.bool b11) ?_
  have g13 := ZW b11
  refine Z0p rfl ?_
  refine Zb ?_
  refine Zl ?_
  refine Z3 (Z0 rfl) (d := 20) (v := (.agg ⟨(([(.int .i64 (0)), (.int .i64 (0)), (.int .i64 (0))] : List Value) ++ hc Zt ++ ([(.int .u64 (0)), (.int .i64 (0)), (.int .i64 (0))] : List Value))⟩)) rfl (by kernel_rfl) ?_
  refine ZQ (Z0 rfl) (fun K14 hK14 => ?_)
  refine Z0q (vs := (([(.int .i64 (0)), (.int .i64 (0)), (.int .i64 (0))] : List Value) ++ hc Zt ++ ([(.int .u64 (0)), (.int .i64 (0)), (.int .i64 (0))] : List Value))) (cs' := (([(.int .i64 (0)), (.int .i64 (0)), (.int .i64 (0))] : List Value) ++ hc Zt ++ ([(.int .u64 (0)), (.int .i64 (0)), (.int .i64 (0))] : List Value))) rfl H10 7 rfl rfl rfl rfl (by kernel_rfl) (Nat.le_of_ble_eq_true (by kernel_rfl)) (Nat.le_of_ble_eq_true (by kernel_rfl)) (by kernel_rfl) (by kernel_rfl) ?_
  intro w15 (H16 : Sat w [Z1 t 121 ([(.int .i64 (F)), (.int .i64 (Cn)), (.int .i64 (rp)), (.map (some tm))] : List Value), ZA tm nmV ceV M, ZL B, Z1 b 110 ([(.map (some mb))] : List Value), ZA mb Z7 (Value.int .i64) (Zh Lb), Z5 w (ZI [Z1 t 121 [.int .i64 F, .int .i64 Cn, .int .i64 rp, .map (some tm)], ZA tm nmV ceV M, ZL B, Z1 b 110 [.map (some mb)], ZA mb Z7 (Value.int .i64) (Zh Lb)]).fp, Z1 b2 53 (([(.int .i64 (x.x.cl)), (.int .i64 (x.x.seq))] : List Value) ++ hc x.x.h ++ ([(.int .i64 (x.x.len)), (.int .i64 (x.x.sb)), (.int .i64 (x.x.sm)), (.slice x.sa x.S.length x.sc)] : List Value)), Z1 b6 31 (([(.int .i64 (0)), (.int .i64 (0)), (.int .i64 (0))] : List Value) ++ hc Zt ++ ([(.int .u64 (0)), (.int .i64 (0)), (.int .i64 (0))] : List Value))] w15)
  refine hK14 _ _ ?_
  clear hK14 K14
  refine Z3 (Z0 rfl) (d := 9) (v := (.int .i64 (3))) rfl (by kernel_rfl) ?_
  refine Zi ?_
  refine Z4 ?_
  refine ZY ?_
  refine ZP ?_
  refine Z7s rfl (Z0e (vs := (([(.int .i64 (0)), (.int .i64 (0)), (.int .i64 (0))] : List Value) ++ hc Zt ++ ([(.int .u64 (0)), (.int .i64 (0)), (.int .i64 (0))] : List Value))) rfl (by kernel_rfl) (by kernel_rfl) (by exact Nat.le_of_ble_eq_true (by kernel_rfl)) (H16.at 7 rfl) (by kernel_rfl)) (ZJ (v := (.int .i64 (3))) rfl) ?_
  exact ⟨Zf, 3, M, B, Lb, rfl, (mk3 (by have q := b11; simpa using q)), (fun h => absurd h (by decide)), (fun _ => rfl), (.inl ⟨rfl, rfl, (fun h => absurd h (by decide)), (fun _ => rfl)⟩), H16.pick [0, 1, 2, 3, 4, 5] (by decide)⟩
 ·have g18 := Zp b11
  refine Zj 19 (.bool false) (congrArg Value.bool b11) ?_
  have g19 := Zp b11
  refine Z0r rfl ?_
  refine ZZ ?_
  refine Z4 ?_
  refine Zb ?_
  refine Zb ?_
  refine Z0f H10 [Z1 t 121 ([(.int .i64 (F)), (.int .i64 (Cn)), (.int .i64 (rp)), (.map (some tm))] : List Value), ZA tm nmV ceV M, ZL B, Z1 b 110 ([(.map (some mb))] : List Value), ZA mb Z7 (Value.int .i64) (Zh Lb), Z5 w (ZI [Z1 t 121 [.int .i64 F, .int .i64 Cn, .int .i64 rp, .map (some tm)], ZA tm nmV ceV M, ZL B, Z1 b 110 [.map (some mb)], ZA mb Z7 (Value.int .i64) (Zh Lb)]).fp, Z1 b2 53 (([(.int .i64 (x.x.cl)), (.int .i64 (x.x.seq))] : List Value) ++ hc x.x.h ++ ([(.int .i64 (x.x.len)), (.int .i64 (x.x.sb)), (.int .i64 (x.x.sm)), (.slice x.sa x.S.length x.sc)] : List Value)), Z1 b6 31 (([(.int .i64 (0)), (.int .i64 (0)), (.int .i64 (0))] : List Value) ++ hc Zt ++ ([(.int .u64 (0)), (.int .i64 (0)), (.int .i64 (0))] : List Value))] 14 rfl (by kernel_rfl) (fun Hx => (Hx.pick [0, 1, 2, 3, 4, 5, 6, 7] (by decide))) ?_
  intro w20 H21 S22
  refine ZM 0 rfl (by kernel_rfl) (by kernel_rfl) (by kernel_rfl) (fun _ _ _ h => h) S22 (Z0 rfl) (d := 22) (v := (.pointer (some ⟨t, 0, none⟩))) rfl (fun _ H' => (by kernel_rfl)) ?_
  refine ZM 1 rfl (by kernel_rfl) (by kernel_rfl) (by kernel_rfl) (fun _ _ _ h => h) S22 (Z0 rfl) (d := 23) (v := (.pointer (some ⟨t, 0, none⟩))) rfl (fun _ H' => (by kernel_rfl)) ?_
  refine ZM 2 rfl (by kernel_rfl) (by kernel_rfl) (by kernel_rfl) (fun _ _ _ h => h) S22 (Z0 rfl) (d := 24) (v := (.pointer (some ⟨t, 3, none⟩))) rfl (fun _ H' => (by kernel_rfl)) ?_
  refine ZM 3 rfl (by kernel_rfl) (by kernel_rfl) (by kernel_rfl) (fun _ _ _ h => h) S22 (Z0 rfl) (d := 25) (v := (.map (some tm))) rfl (fun _ H' => (Za rfl (by kernel_rfl) (H'.cell 0 rfl rfl))) ?_
  refine ZM 4 rfl (by kernel_rfl) (by kernel_rfl) (by kernel_rfl) (fun _ _ _ h => h) S22 (Z0 rfl) (d := 26) (v := (.pointer (some ⟨b2, 0, none⟩))) rfl (fun _ H' => (by kernel_rfl)) ?_
  refine ZM 5 rfl (by kernel_rfl) (by kernel_rfl) (by kernel_rfl) (fun _ _ _ h => h) S22 (Z0 rfl) (d := 27) (v := (.pointer (some ⟨b2, 0, none⟩))) rfl (fun _ H' => (by kernel_rfl)) ?_
  refine ZM 6 rfl (by kernel_rfl) (by kernel_rfl) (by kernel_rfl) (fun _ _ _ h => h) S22 (Z0 rfl) (d := 28) (v := (.agg ⟨([(.int .i64 (x.x.cl)), (.int .i64 (x.x.seq))] : List Value)⟩)) rfl (fun _ H' => (Zs (vs := ([(.int .i64 (x.x.cl)), (.int .i64 (x.x.seq))] : List Value)) rfl (by kernel_rfl) (by kernel_rfl) (by exact Nat.le_of_ble_eq_true (by kernel_rfl)) (H'.at 6 rfl) (by kernel_rfl))) ?_
  refine ZM 7 rfl (by kernel_rfl) (by kernel_rfl) (by kernel_rfl) (fun _ _ _ h => h) S22 (Z0 rfl) (d := 29) (v := (.tuple #[(.agg ⟨(([(.int .i64 (((Z6 M (⟨x.x.cl, x.x.seq⟩ : NmD)).getD ce0).x.cl)), (.int .i64 (((Z6 M (⟨x.x.cl, x.x.seq⟩ : NmD)).getD ce0).x.seq))] : List Value) ++ hc ((Z6 M (⟨x.x.cl, x.x.seq⟩ : NmD)).getD ce0).x.h ++ ([(.int .i64 (((Z6 M (⟨x.x.cl, x.x.seq⟩ : NmD)).getD ce0).x.len)), (.int .i64 (((Z6 M (⟨x.x.cl, x.x.seq⟩ : NmD)).getD ce0).x.sb)), (.int .i64 (((Z6 M (⟨x.x.cl, x.x.seq⟩ : NmD)).getD ce0).x.sm)), (.slice ((Z6 M (⟨x.x.cl, x.x.seq⟩ : NmD)).getD ce0).sa (((Z6 M (⟨x.x.cl, x.x.seq⟩ : NmD)).getD ce0).S.length) (((Z6 M (⟨x.x.cl, x.x.seq⟩ : NmD)).getD ce0).sc))] : List Value))⟩), (.bool ((Z6 M (⟨x.x.cl, x.x.seq⟩ : NmD)).isSome))])) rfl (fun _ H' => (Z8a (kt := 24) (et := 53) nmK (by kernel_rfl) Z9b rfl (⟨x.x.cl, x.x.seq⟩ : NmD) rfl (H'.at 1 rfl) (Z9B ceV _ _) rfl)) ?_
  refine ZM 8 rfl (by kernel_rfl) (by kernel_rfl) (by kernel_rfl) (fun _ _ _ h => h) S22 (Z0 rfl) (d := 21) (v := (.tuple #[(.agg ⟨(([(.int .i64 (((Z6 M (⟨x.x.cl, x.x.seq⟩ : NmD)).getD ce0).x.cl)), (.int .i64 (((Z6 M (⟨x.x.cl, x.x.seq⟩ : NmD)).getD ce0).x.seq))] : List Value) ++ hc ((Z6 M (⟨x.x.cl, x.x.seq⟩ : NmD)).getD ce0).x.h ++ ([(.int .i64 (((Z6 M (⟨x.x.cl, x.x.seq⟩ : NmD)).getD ce0).x.len)), (.int .i64 (((Z6 M (⟨x.x.cl, x.x.seq⟩ : NmD)).getD ce0).x.sb)), (.int .i64 (((Z6 M (⟨x.x.cl, x.x.seq⟩ : NmD)).getD ce0).x.sm)), (.slice ((Z6 M (⟨x.x.cl, x.x.seq⟩ : NmD)).getD ce0).sa (((Z6 M (⟨x.x.cl, x.x.seq⟩ : NmD)).getD ce0).S.length) (((Z6 M (⟨x.x.cl, x.x.seq⟩ : NmD)).getD ce0).sc))] : List Value))⟩), (.bool ((Z6 M (⟨x.x.cl, x.x.seq⟩ : NmD)).isSome))])) rfl (fun _ H' => (by kernel_rfl)) ?_
  refine ZM 9 rfl (by kernel_rfl) (by kernel_rfl) (by kernel_rfl) (fun _ _ _ h => h) S22 (Z0 rfl) (d := 30) (v := (.agg ⟨(([(.int .i64 (((Z6 M (⟨x.x.cl, x.x.seq⟩ : NmD)).getD ce0).x.cl)), (.int .i64 (((Z6 M (⟨x.x.cl, x.x.seq⟩ : NmD)).getD ce0).x.seq))] : List Value) ++ hc ((Z6 M (⟨x.x.cl, x.x.seq⟩ : NmD)).getD ce0).x.h ++ ([(.int .i64 (((Z6 M (⟨x.x.cl, x.x.seq⟩ : NmD)).getD ce0).x.len)), (.int .i64 (((Z6 M (⟨x.x.cl, x.x.seq⟩ : NmD)).getD ce0).x.sb)), (.int .i64 (((Z6 M (⟨x.x.cl, x.x.seq⟩ : NmD)).getD ce0).x.sm)), (.slice ((Z6 M (⟨x.x.cl, x.x.seq⟩ : NmD)).getD ce0).sa (((Z6 M (⟨x.x.cl, x.x.seq⟩ : NmD)).getD ce0).S.length) (((Z6 M (⟨x.x.cl, x.x.seq⟩ : NmD)).getD ce0).sc))] : List Value))⟩)) rfl (fun _ H' => (by kernel_rfl)) ?_
  refine ZM 10 rfl (by kernel_rfl) (by kernel_rfl) (by kernel_rfl) (fun _ _ _ h => h) S22 (Z0 rfl) (d := 31) (v := (.bool ((Z6 M (⟨x.x.cl, x.x.seq⟩ : NmD)).isSome))) rfl (fun _ H' => (by kernel_rfl)) ?_
  refine Z1l 11 rfl (by kernel_rfl) (Z0 rfl) (fun K23 hK23 => ?_)
  refine Z19 (zs := (([(.int .i64 (0)), (.int .i64 (0))] : List Value) ++ hc Zt ++ ([(.int .i64 (0)), (.int .i64 (0)), (.int .i64 (0)), (.slice none 0 0)] : List Value))) (z := (.agg ⟨(([(.int .i64 (0)), (.int .i64 (0))] : List Value) ++ hc Zt ++ ([(.int .i64 (0)), (.int .i64 (0)), (.int .i64 (0)), (.slice none 0 0)] : List Value))⟩)) rfl H21 (by kernel_rfl) (by kernel_rfl) ?_
  intro b24 w25 (H26 : Sat w [Z1 t 121 ([(.int .i64 (F)), (.int .i64 (Cn)), (.int .i64 (rp)), (.map (some tm))] : List Value), ZA tm nmV ceV M, ZL B, Z1 b 110 ([(.map (some mb))] : List Value), ZA mb Z7 (Value.int .i64) (Zh Lb), Z5 w (ZI [Z1 t 121 [.int .i64 F, .int .i64 Cn, .int .i64 rp, .map (some tm)], ZA tm nmV ceV M, ZL B, Z1 b 110 [.map (some mb)], ZA mb Z7 (Value.int .i64) (Zh Lb)]).fp, Z1 b2 53 (([(.int .i64 (x.x.cl)), (.int .i64 (x.x.seq))] : List Value) ++ hc x.x.h ++ ([(.int .i64 (x.x.len)), (.int .i64 (x.x.sb)), (.int .i64 (x.x.sm)), (.slice x.sa x.S.length x.sc)] : List Value)), Z1 b6 31 (([(.int .i64 (0)), (.int .i64 (0)), (.int .i64 (0))] : List Value) ++ hc Zt ++ ([(.int .u64 (0)), (.int .i64 (0)), (.int .i64 (0))] : List Value)), Z1 b24 53 (([(.int .i64 (0)), (.int .i64 (0))] : List Value) ++ hc Zt ++ ([(.int .i64 (0)), (.int .i64 (0)), (.int .i64 (0)), (.slice none 0 0)] : List Value))] w25)
  have S27 := H26.pick [0, 1, 2, 3, 4, 5, 6, 7] (by decide)
  refine hK23 _ _ S27 ?_
  clear hK23 K23
  refine Z1l 12 rfl (by kernel_rfl) (Z0 rfl) (fun K28 hK28 => ?_)
  refine Z0q (vs := (([(.int .i64 (((Z6 M (⟨x.x.cl, x.x.seq⟩ : NmD)).getD ce0).x.cl)), (.int .i64 (((Z6 M (⟨x.x.cl, x.x.seq⟩ : NmD)).getD ce0).x.seq))] : List Value) ++ hc ((Z6 M (⟨x.x.cl, x.x.seq⟩ : NmD)).getD ce0).x.h ++ ([(.int .i64 (((Z6 M (⟨x.x.cl, x.x.seq⟩ : NmD)).getD ce0).x.len)), (.int .i64 (((Z6 M (⟨x.x.cl, x.x.seq⟩ : NmD)).getD ce0).x.sb)), (.int .i64 (((Z6 M (⟨x.x.cl, x.x.seq⟩ : NmD)).getD ce0).x.sm)), (.slice ((Z6 M (⟨x.x.cl, x.x.seq⟩ : NmD)).getD ce0).sa (((Z6 M (⟨x.x.cl, x.x.seq⟩ : NmD)).getD ce0).S.length) (((Z6 M (⟨x.x.cl, x.x.seq⟩ : NmD)).getD ce0).sc))] : List Value))) (cs' := (([(.int .i64 (((Z6 M (⟨x.x.cl, x.x.seq⟩ : NmD)).getD ce0).x.cl)), (.int .i64 (((Z6 M (⟨x.x.cl, x.x.seq⟩ : NmD)).getD ce0).x.seq))] : List Value) ++ hc ((Z6 M (⟨x.x.cl, x.x.seq⟩ : NmD)).getD ce0).x.h ++ ([(.int .i64 (((Z6 M (⟨x.x.cl, x.x.seq⟩ : NmD)).getD ce0).x.len)), (.int .i64 (((Z6 M (⟨x.x.cl, x.x.seq⟩ : NmD)).getD ce0).x.sb)), (.int .i64 (((Z6 M (⟨x.x.cl, x.x.seq⟩ : NmD)).getD ce0).x.sm)), (.slice ((Z6 M (⟨x.x.cl, x.x.seq⟩ : NmD)).getD ce0).sa (((Z6 M (⟨x.x.cl, x.x.seq⟩ : NmD)).getD ce0).S.length) (((Z6 M (⟨x.x.cl, x.x.seq⟩ : NmD)).getD ce0).sc))] : List Value))) rfl H26 8 rfl rfl rfl rfl (by kernel_rfl) (Nat.le_of_ble_eq_true (by kernel_rfl)) (Nat.le_of_ble_eq_true (by kernel_rfl)) (by kernel_rfl) (by kernel_rfl) ?_
  intro w29 (H30 : Sat w [Z1 t 121 ([(.int .i64 (F)), (.int .i64 (Cn)), (.int .i64 (rp)), (.map (some tm))] : List Value), ZA tm nmV ceV M, ZL B, Z1 b 110 ([(.map (some mb))] : List Value), ZA mb Z7 (Value.int .i64) (Zh Lb), Z5 w (ZI [Z1 t 121 [.int .i64 F, .int .i64 Cn, .int .i64 rp, .map (some tm)], ZA tm nmV ceV M, ZL B, Z1 b 110 [.map (some mb)], ZA mb Z7 (Value.int .i64) (Zh Lb)]).fp, Z1 b2 53 (([(.int .i64 (x.x.cl)), (.int .i64 (x.x.seq))] : List Value) ++ hc x.x.h ++ ([(.int .i64 (x.x.len)), (.int .i64 (x.x.sb)), (.int .i64 (x.x.sm)), (.slice x.sa x.S.length x.sc)] : List Value)), Z1 b6 31 (([(.int .i64 (0)), (.int .i64 (0)), (.int .i64 (0))] : List Value) ++ hc Zt ++ ([(.int .u64 (0)), (.int .i64 (0)), (.int .i64 (0))] : List Value)), Z1 b24 53 (([(.int .i64 (((Z6 M (⟨x.x.cl, x.x.seq⟩ : NmD)).getD ce0).x.cl)), (.int .i64 (((Z6 M (⟨x.x.cl, x.x.seq⟩ : NmD)).getD ce0).x.seq))] : List Value) ++ hc ((Z6 M (⟨x.x.cl, x.x.seq⟩ : NmD)).getD ce0).x.h ++ ([(.int .i64 (((Z6 M (⟨x.x.cl, x.x.seq⟩ : NmD)).getD ce0).x.len)), (.int .i64 (((Z6 M (⟨x.x.cl, x.x.seq⟩ : NmD)).getD ce0).x.sb)), (.int .i64 (((Z6 M (⟨x.x.cl, x.x.seq⟩ : NmD)).getD ce0).x.sm)), (.slice ((Z6 M (⟨x.x.cl, x.x.seq⟩ : NmD)).getD ce0).sa (((Z6 M (⟨x.x.cl, x.x.seq⟩ : NmD)).getD ce0).S.length) (((Z6 M (⟨x.x.cl, x.x.seq⟩ : NmD)).getD ce0).sc))] : List Value))] w29)
  have S32 := H30.pick [0, 1, 2, 3, 4, 5, 6, 7] (by decide)
  refine hK28 _ _ S32 ?_
  clear hK28 K28
  refine ZM 13 rfl (by kernel_rfl) (by kernel_rfl) (by kernel_rfl) (fun _ _ _ h => h) S32 (Z0 rfl) (d := 11) (v := (.bool ((Z6 M (⟨x.x.cl, x.x.seq⟩ : NmD)).isSome))) rfl (fun _ H' => (by kernel_rfl)) ?_
  refine Z20 (by kernel_rfl) ?_
  refine Z4 ?_
  refine Zb ?_
  refine Zl ?_
  refine Z3 (Z0 rfl) (d := 32) (v := (.bool ((Z6 M (⟨x.x.cl, x.x.seq⟩ : NmD)).isSome))) rfl (by kernel_rfl) ?_
  refine Zi ?_
  refine Z4 ?_
  refine (ZD ((Z6 M (⟨x.x.cl, x.x.seq⟩ : NmD)).isSome)).elim (fun b33 => ?_) (fun b33 => ?_)
  ·refine Zj 32 (.bool true) (congrArg Value.bool b33) ?_
   refine Z0p rfl ?_
   refine Zb ?_
   refine Zb ?_
   refine Z2k H30 (by kernel_rfl) (by kernel_rfl) ?_
   refine ZT (Z0 rfl) (d := 33) (v := (.pointer (some ⟨b24, 0, none⟩))) rfl (fun _ H' => (by kernel_rfl)) ?_
   refine ZT (Z0 rfl) (d := 34) (v := (.pointer (some ⟨b24, 2, none⟩))) rfl (fun _ H' => (by kernel_rfl)) ?_
   refine ZT (Z0 rfl) (d := 35) (v := (.agg ⟨(hc ((Z6 M (⟨x.x.cl, x.x.seq⟩ : NmD)).getD ce0).x.h)⟩)) rfl (fun _ H' => (Zs (vs := (hc ((Z6 M (⟨x.x.cl, x.x.seq⟩ : NmD)).getD ce0).x.h)) rfl (by kernel_rfl) (by kernel_rfl) (by exact Nat.le_of_ble_eq_true (by kernel_rfl)) (H'.at 8 rfl) (by kernel_rfl))) ?_
   refine ZT (Z0 rfl) (d := 36) (v := (.pointer (some ⟨b2, 0, none⟩))) rfl (fun _ H' => (by kernel_rfl)) ?_
   refine ZT (Z0 rfl) (d := 37) (v := (.pointer (some ⟨b2, 2, none⟩))) rfl (fun _ H' => (by kernel_rfl)) ?_
   refine ZT (Z0 rfl) (d := 38) (v := (.agg ⟨(hc x.x.h)⟩)) rfl (fun _ H' => (Zs (vs := (hc x.x.h)) rfl (by kernel_rfl) (by kernel_rfl) (by exact Nat.le_of_ble_eq_true (by kernel_rfl)) (H'.at 6 rfl) (by kernel_rfl))) ?_
   refine ZT (Z0 rfl) (d := 39) (v := (.bool (!(decide ((((Z6 M (⟨x.x.cl, x.x.seq⟩ : NmD)).getD ce0).x.h) = x.x.h))))) rfl (fun _ H' => (Z5s (((Z6 M (⟨x.x.cl, x.x.seq⟩ : NmD)).getD ce0).x.h) x.x.h rfl rfl)) ?_
   refine ZT (Z0 rfl) (d := 40) (v := (.bool (!(decide ((((Z6 M (⟨x.x.cl, x.x.seq⟩ : NmD)).getD ce0).x.h) = x.x.h))))) rfl (fun _ H' => (by kernel_rfl)) ?_
   refine (ZD (!(decide ((((Z6 M (⟨x.x.cl, x.x.seq⟩ : NmD)).getD ce0).x.h) = x.x.h)))).elim (fun b34 => ?_) (fun b34 => ?_)
   ·have g35 := ZW b34
    have g36 := of_decide_eq_false g35
    refine Z1T 40 (.bool true) (congrArg Value.bool b34) ?_
    have g37 := ZW b34
    have g38 := of_decide_eq_false g37
    refine Z0d (Zn 7 40 false rfl (by kernel_rfl) rfl (by kernel_rfl)) rfl ?_
    refine Z0d (Zn 7 40 false rfl (by kernel_rfl) rfl (by kernel_rfl)) rfl ?_
    refine Z0d (Zn 7 40 false rfl (by kernel_rfl) rfl (by kernel_rfl)) rfl ?_
    refine Z0d (Zn 7 40 false rfl (by kernel_rfl) rfl (by kernel_rfl)) rfl ?_
    refine Z0d (Zn 7 40 false rfl (by kernel_rfl) rfl (by kernel_rfl)) rfl ?_
    refine ZT (Z0 rfl) (d := 46) (v := (.bool true)) rfl (fun _ H' => (by kernel_rfl)) ?_
    refine Z1Q ?_
    intro w39 H40
    refine Z4 ?_
    refine Z0p rfl ?_
    refine Zb ?_
    refine Zl ?_
    refine Z3 (Z0 rfl) (d := 47) (v := (.agg ⟨(([(.int .i64 (0)), (.int .i64 (0)), (.int .i64 (0))] : List Value) ++ hc Zt ++ ([(.int .u64 (0)), (.int .i64 (0)), (.int .i64 (0))] : List Value))⟩)) rfl (by kernel_rfl) ?_
    refine ZQ (Z0 rfl) (fun K41 hK41 => ?_)
    refine Z0q (vs := (([(.int .i64 (0)), (.int .i64 (0)), (.int .i64 (0))] : List Value) ++ hc Zt ++ ([(.int .u64 (0)), (.int .i64 (0)), (.int .i64 (0))] : List Value))) (cs' := (([(.int .i64 (0)), (.int .i64 (0)), (.int .i64 (0))] : List Value) ++ hc Zt ++ ([(.int .u64 (0)), (.int .i64 (0)), (.int .i64 (0))] : List Value))) rfl H40 7 rfl rfl rfl rfl (by kernel_rfl) (Nat.le_of_ble_eq_true (by kernel_rfl)) (Nat.le_of_ble_eq_true (by kernel_rfl)) (by kernel_rfl) (by kernel_rfl) ?_
    intro w42 (H43 : Sat w [Z1 t 121 ([(.int .i64 (F)), (.int .i64 (Cn)), (.int .i64 (rp)), (.map (some tm))] : List Value), ZA tm nmV ceV M, ZL B, Z1 b 110 ([(.map (some mb))] : List Value), ZA mb Z7 (Value.int .i64) (Zh Lb), Z5 w (ZI [Z1 t 121 [.int .i64 F, .int .i64 Cn, .int .i64 rp, .map (some tm)], ZA tm nmV ceV M, ZL B, Z1 b 110 [.map (some mb)], ZA mb Z7 (Value.int .i64) (Zh Lb)]).fp, Z1 b2 53 (([(.int .i64 (x.x.cl)), (.int .i64 (x.x.seq))] : List Value) ++ hc x.x.h ++ ([(.int .i64 (x.x.len)), (.int .i64 (x.x.sb)), (.int .i64 (x.x.sm)), (.slice x.sa x.S.length x.sc)] : List Value)), Z1 b6 31 (([(.int .i64 (0)), (.int .i64 (0)), (.int .i64 (0))] : List Value) ++ hc Zt ++ ([(.int .u64 (0)), (.int .i64 (0)), (.int .i64 (0))] : List Value)), Z1 b24 53 (([(.int .i64 (((Z6 M (⟨x.x.cl, x.x.seq⟩ : NmD)).getD ce0).x.cl)), (.int .i64 (((Z6 M (⟨x.x.cl, x.x.seq⟩ : NmD)).getD ce0).x.seq))] : List Value) ++ hc ((Z6 M (⟨x.x.cl, x.x.seq⟩ : NmD)).getD ce0).x.h ++ ([(.int .i64 (((Z6 M (⟨x.x.cl, x.x.seq⟩ : NmD)).getD ce0).x.len)), (.int .i64 (((Z6 M (⟨x.x.cl, x.x.seq⟩ : NmD)).getD ce0).x.sb)), (.int .i64 (((Z6 M (⟨x.x.cl, x.x.seq⟩ : NmD)).getD ce0).x.sm)), (.slice ((Z6 M (⟨x.x.cl, x.x.seq⟩ : NmD)).getD ce0).sa (((Z6 M (⟨x.x.cl, x.x.seq⟩ : NmD)).getD ce0).S.length) (((Z6 M (⟨x.x.cl, x.x.seq⟩ : NmD)).getD ce0).sc))] : List Value))] w42)
    refine hK41 _ _ ?_
    clear hK41 K41
    refine Z3 (Z0 rfl) (d := 9) (v := (.int .i64 (5))) rfl (by kernel_rfl) ?_
    refine Zi ?_
    refine Z4 ?_
    refine ZY ?_
    refine ZP ?_
    refine ZP ?_
    refine Z7s rfl (Z0e (vs := (([(.int .i64 (0)), (.int .i64 (0)), (.int .i64 (0))] : List Value) ++ hc Zt ++ ([(.int .u64 (0)), (.int .i64 (0)), (.int .i64 (0))] : List Value))) rfl (by kernel_rfl) (by kernel_rfl) (by exact Nat.le_of_ble_eq_true (by kernel_rfl)) (H43.at 7 rfl) (by kernel_rfl)) (ZJ (v := (.int .i64 (5))) rfl) ?_
    exact ⟨Zf, 5, M, B, Lb, rfl, (mk5 (by have q := b11; simpa using q) b33 (by rintro ⟨q1, q2⟩; simp only [nmX] at q1 q2; simp [q1, q2] at b34)), (fun h => absurd h (by decide)), (fun _ => rfl), (.inl ⟨rfl, rfl, (fun h => absurd h (by decide)), (fun _ => rfl)⟩), H43.pick [0, 1, 2, 3, 4, 5] (by decide)⟩
   ·have g45 := Zp b34
    have g46 := of_decide_eq_true g45
    refine Z1T 40 (.bool false) (congrArg Value.bool b34) ?_
    have g47 := Zp b34
    have g48 := of_decide_eq_true g47
    refine ZT (Zu 7 40 false rfl (by kernel_rfl) rfl (by kernel_rfl)) (d := 41) (v := (.agg ⟨(([(.int .i64 (((Z6 M (⟨x.x.cl, x.x.seq⟩ : NmD)).getD ce0).x.cl)), (.int .i64 (((Z6 M (⟨x.x.cl, x.x.seq⟩ : NmD)).getD ce0).x.seq))] : List Value) ++ hc ((Z6 M (⟨x.x.cl, x.x.seq⟩ : NmD)).getD ce0).x.h ++ ([(.int .i64 (((Z6 M (⟨x.x.cl, x.x.seq⟩ : NmD)).getD ce0).x.len)), (.int .i64 (((Z6 M (⟨x.x.cl, x.x.seq⟩ : NmD)).getD ce0).x.sb)), (.int .i64 (((Z6 M (⟨x.x.cl, x.x.seq⟩ : NmD)).getD ce0).x.sm)), (.slice ((Z6 M (⟨x.x.cl, x.x.seq⟩ : NmD)).getD ce0).sa (((Z6 M (⟨x.x.cl, x.x.seq⟩ : NmD)).getD ce0).S.length) (((Z6 M (⟨x.x.cl, x.x.seq⟩ : NmD)).getD ce0).sc))] : List Value))⟩)) rfl (fun _ H' => (Zs (vs := (([(.int .i64 (((Z6 M (⟨x.x.cl, x.x.seq⟩ : NmD)).getD ce0).x.cl)), (.int .i64 (((Z6 M (⟨x.x.cl, x.x.seq⟩ : NmD)).getD ce0).x.seq))] : List Value) ++ hc ((Z6 M (⟨x.x.cl, x.x.seq⟩ : NmD)).getD ce0).x.h ++ ([(.int .i64 (((Z6 M (⟨x.x.cl, x.x.seq⟩ : NmD)).getD ce0).x.len)), (.int .i64 (((Z6 M (⟨x.x.cl, x.x.seq⟩ : NmD)).getD ce0).x.sb)), (.int .i64 (((Z6 M (⟨x.x.cl, x.x.seq⟩ : NmD)).getD ce0).x.sm)), (.slice ((Z6 M (⟨x.x.cl, x.x.seq⟩ : NmD)).getD ce0).sa (((Z6 M (⟨x.x.cl, x.x.seq⟩ : NmD)).getD ce0).S.length) (((Z6 M (⟨x.x.cl, x.x.seq⟩ : NmD)).getD ce0).sc))] : List Value))) rfl (by kernel_rfl) (by kernel_rfl) (by exact Nat.le_of_ble_eq_true (by kernel_rfl)) (H'.at 8 rfl) (by kernel_rfl))) ?_
    refine Z1E (Zu 7 40 false rfl (by kernel_rfl) rfl (by kernel_rfl)) (d := 42) (v := (.int .u64 (Z8 (((Z6 M (⟨x.x.cl, x.x.seq⟩ : NmD)).getD ce0).S)))) rfl (fun _ _ => by kernel_rfl) (fun w' H' => (Z1y w' ((Z6 M (⟨x.x.cl, x.x.seq⟩ : NmD)).getD ce0).x ((Z6 M (⟨x.x.cl, x.x.seq⟩ : NmD)).getD ce0).sa ((Z6 M (⟨x.x.cl, x.x.seq⟩ : NmD)).getD ce0).sc (((Z6 M (⟨x.x.cl, x.x.seq⟩ : NmD)).getD ce0).S) (Z3g (c := ((Z6 M (⟨x.x.cl, x.x.seq⟩ : NmD)).getD ce0)) (H'.at 2 rfl) (Z5h hcT b33).bag) (Z5h hcT b33).len).mono fun _ _ h => ⟨h.1, H'.keepU h.2⟩) ?_
    refine ZT (Zu 7 40 false rfl (by kernel_rfl) rfl (by kernel_rfl)) (d := 43) (v := (.agg ⟨(([(.int .i64 (x.x.cl)), (.int .i64 (x.x.seq))] : List Value) ++ hc x.x.h ++ ([(.int .i64 (x.x.len)), (.int .i64 (x.x.sb)), (.int .i64 (x.x.sm)), (.slice x.sa x.S.length x.sc)] : List Value))⟩)) rfl (fun _ H' => (Zs (vs := (([(.int .i64 (x.x.cl)), (.int .i64 (x.x.seq))] : List Value) ++ hc x.x.h ++ ([(.int .i64 (x.x.len)), (.int .i64 (x.x.sb)), (.int .i64 (x.x.sm)), (.slice x.sa x.S.length x.sc)] : List Value))) rfl (by kernel_rfl) (by kernel_rfl) (by exact Nat.le_of_ble_eq_true (by kernel_rfl)) (H'.at 6 rfl) (by kernel_rfl))) ?_
    refine Z1E (Zu 7 40 false rfl (by kernel_rfl) rfl (by kernel_rfl)) (d := 44) (v := (.int .u64 (Z8 x.S))) rfl (fun _ _ => by kernel_rfl) (fun w' H' => (Z1y w' x.x x.sa x.sc x.S (Z3g (c := x) (H'.at 2 rfl) hxT.bag) hxT.len).mono fun _ _ h => ⟨h.1, H'.keepU h.2⟩) ?_
    refine ZT (Zu 7 40 false rfl (by kernel_rfl) rfl (by kernel_rfl)) (d := 45) (v := (.bool (!(decide ((Z8 (((Z6 M (⟨x.x.cl, x.x.seq⟩ : NmD)).getD ce0).S)) = (Z8 x.S)))))) rfl (fun _ H' => (by kernel_rfl)) ?_
    refine ZT (Z0 rfl) (d := 46) (v := (.bool (!(decide ((Z8 (((Z6 M (⟨x.x.cl, x.x.seq⟩ : NmD)).getD ce0).S)) = (Z8 x.S)))))) rfl (fun _ H' => (by kernel_rfl)) ?_
    refine Z1Q ?_
    intro w49 H50
    refine Z4 ?_
    refine (ZD (!(decide ((Z8 (((Z6 M (⟨x.x.cl, x.x.seq⟩ : NmD)).getD ce0).S)) = (Z8 x.S))))).elim (fun b51 => ?_) (fun b51 => ?_)
    ·have g52 := ZW b51
     have g53 := of_decide_eq_false g52
     refine Zj 46 (.bool true) (congrArg Value.bool b51) ?_
     have g54 := ZW b51
     have g55 := of_decide_eq_false g54
     refine Z0p rfl ?_
     refine Zb ?_
     refine Zl ?_
     refine Z3 (Z0 rfl) (d := 47) (v := (.agg ⟨(([(.int .i64 (0)), (.int .i64 (0)), (.int .i64 (0))] : List Value) ++ hc Zt ++ ([(.int .u64 (0)), (.int .i64 (0)), (.int .i64 (0))] : List Value))⟩)) rfl (by kernel_rfl) ?_
     refine ZQ (Z0 rfl) (fun K56 hK56 => ?_)
     refine Z0q (vs := (([(.int .i64 (0)), (.int .i64 (0)), (.int .i64 (0))] : List Value) ++ hc Zt ++ ([(.int .u64 (0)), (.int .i64 (0)), (.int .i64 (0))] : List Value))) (cs' := (([(.int .i64 (0)), (.int .i64 (0)), (.int .i64 (0))] : List Value) ++ hc Zt ++ ([(.int .u64 (0)), (.int .i64 (0)), (.int .i64 (0))] : List Value))) rfl H50 7 rfl rfl rfl rfl (by kernel_rfl) (Nat.le_of_ble_eq_true (by kernel_rfl)) (Nat.le_of_ble_eq_true (by kernel_rfl)) (by kernel_rfl) (by kernel_rfl) ?_
     intro w57 (H58 : Sat w [Z1 t 121 ([(.int .i64 (F)), (.int .i64 (Cn)), (.int .i64 (rp)), (.map (some tm))] : List Value), ZA tm nmV ceV M, ZL B, Z1 b 110 ([(.map (some mb))] : List Value), ZA mb Z7 (Value.int .i64) (Zh Lb), Z5 w (ZI [Z1 t 121 [.int .i64 F, .int .i64 Cn, .int .i64 rp, .map (some tm)], ZA tm nmV ceV M, ZL B, Z1 b 110 [.map (some mb)], ZA mb Z7 (Value.int .i64) (Zh Lb)]).fp, Z1 b2 53 (([(.int .i64 (x.x.cl)), (.int .i64 (x.x.seq))] : List Value) ++ hc x.x.h ++ ([(.int .i64 (x.x.len)), (.int .i64 (x.x.sb)), (.int .i64 (x.x.sm)), (.slice x.sa x.S.length x.sc)] : List Value)), Z1 b6 31 (([(.int .i64 (0)), (.int .i64 (0)), (.int .i64 (0))] : List Value) ++ hc Zt ++ ([(.int .u64 (0)), (.int .i64 (0)), (.int .i64 (0))] : List Value)), Z1 b24 53 (([(.int .i64 (((Z6 M (⟨x.x.cl, x.x.seq⟩ : NmD)).getD ce0).x.cl)), (.int .i64 (((Z6 M (⟨x.x.cl, x.x.seq⟩ : NmD)).getD ce0).x.seq))] : List Value) ++ hc ((Z6 M (⟨x.x.cl, x.x.seq⟩ : NmD)).getD ce0).x.h ++ ([(.int .i64 (((Z6 M (⟨x.x.cl, x.x.seq⟩ : NmD)).getD ce0).x.len)), (.int .i64 (((Z6 M (⟨x.x.cl, x.x.seq⟩ : NmD)).getD ce0).x.sb)), (.int .i64 (((Z6 M (⟨x.x.cl, x.x.seq⟩ : NmD)).getD ce0).x.sm)), (.slice ((Z6 M (⟨x.x.cl, x.x.seq⟩ : NmD)).getD ce0).sa (((Z6 M (⟨x.x.cl, x.x.seq⟩ : NmD)).getD ce0).S.length) (((Z6 M (⟨x.x.cl, x.x.seq⟩ : NmD)).getD ce0).sc))] : List Value))] w57)
     refine hK56 _ _ ?_
     clear hK56 K56
     refine Z3 (Z0 rfl) (d := 9) (v := (.int .i64 (5))) rfl (by kernel_rfl) ?_
     refine Zi ?_
     refine Z4 ?_
     refine ZY ?_
     refine ZP ?_
     refine ZP ?_
     refine Z7s rfl (Z0e (vs := (([(.int .i64 (0)), (.int .i64 (0)), (.int .i64 (0))] : List Value) ++ hc Zt ++ ([(.int .u64 (0)), (.int .i64 (0)), (.int .i64 (0))] : List Value))) rfl (by kernel_rfl) (by kernel_rfl) (by exact Nat.le_of_ble_eq_true (by kernel_rfl)) (H58.at 7 rfl) (by kernel_rfl)) (ZJ (v := (.int .i64 (5))) rfl) ?_
     exact ⟨Zf, 5, M, B, Lb, rfl, (mk5 (by have q := b11; simpa using q) b33 (by rintro ⟨q1, q2⟩; simp only [nmX] at q1 q2; simp [q1, q2] at b34 b51)), (fun h => absurd h (by decide)), (fun _ => rfl), (.inl ⟨rfl, rfl, (fun h => absurd h (by decide)), (fun _ => rfl)⟩), H58.pick [0, 1, 2, 3, 4, 5] (by decide)⟩
    ·have g60 := Zp b51
     have g61 := of_decide_eq_true g60
     refine Zj 46 (.bool false) (congrArg Value.bool b51) ?_
     have g62 := Zp b51
     have g63 := of_decide_eq_true g62
     refine Z0r rfl ?_
     refine ZZ ?_
     refine Z4 ?_
     refine Zb ?_
     refine Zl ?_
     refine Z3 (Z0 rfl) (d := 48) (v := (.pointer (some ⟨t, 0, none⟩))) rfl (by kernel_rfl) ?_
     refine Z3 (Z0 rfl) (d := 49) (v := (.pointer (some ⟨b, 0, none⟩))) rfl (by kernel_rfl) ?_
     refine Z3 (Z0 rfl) (d := 50) (v := (.agg ⟨(([(.int .i64 (x.x.cl)), (.int .i64 (x.x.seq))] : List Value) ++ hc x.x.h ++ ([(.int .i64 (x.x.len)), (.int .i64 (x.x.sb)), (.int .i64 (x.x.sm)), (.slice x.sa x.S.length x.sc)] : List Value))⟩)) rfl (Zs (vs := (([(.int .i64 (x.x.cl)), (.int .i64 (x.x.seq))] : List Value) ++ hc x.x.h ++ ([(.int .i64 (x.x.len)), (.int .i64 (x.x.sb)), (.int .i64 (x.x.sm)), (.slice x.sa x.S.length x.sc)] : List Value))) rfl (by kernel_rfl) (by kernel_rfl) (by exact Nat.le_of_ble_eq_true (by kernel_rfl)) (H50.at 6 rfl) (by kernel_rfl)) ?_
     refine ZQ (Z0 rfl) (fun K64 hK64 => ?_)
     refine ZX (d := 51) rfl (by kernel_rfl) (Z5K w49 t F Cn rp tm B b mb Lb (H50.fin [0, 2, 3, 4] (by decide) rfl) hrp hlb x hxT) ?_
     rintro _ w65 ⟨rfl, T66⟩
     have H67 : Sat w [Z1 t 121 ([(.int .i64 (F)), (.int .i64 (Cn)), (.int .i64 (rp)), (.map (some tm))] : List Value), ZA tm nmV ceV M, ZL B, Z1 b 110 ([(.map (some mb))] : List Value), ZA mb Z7 (Value.int .i64) (Zh (Zg Lb (Z68 rp x))), Z5 w (ZI [Z1 t 121 [.int .i64 F, .int .i64 Cn, .int .i64 rp, .map (some tm)], ZA tm nmV ceV M, ZL B, Z1 b 110 [.map (some mb)], ZA mb Z7 (Value.int .i64) (Zh Lb)]).fp, Z1 b2 53 (([(.int .i64 (x.x.cl)), (.int .i64 (x.x.seq))] : List Value) ++ hc x.x.h ++ ([(.int .i64 (x.x.len)), (.int .i64 (x.x.sb)), (.int .i64 (x.x.sm)), (.slice x.sa x.S.length x.sc)] : List Value)), Z1 b6 31 (([(.int .i64 (0)), (.int .i64 (0)), (.int .i64 (0))] : List Value) ++ hc Zt ++ ([(.int .u64 (0)), (.int .i64 (0)), (.int .i64 (0))] : List Value)), Z1 b24 53 (([(.int .i64 (((Z6 M (⟨x.x.cl, x.x.seq⟩ : NmD)).getD ce0).x.cl)), (.int .i64 (((Z6 M (⟨x.x.cl, x.x.seq⟩ : NmD)).getD ce0).x.seq))] : List Value) ++ hc ((Z6 M (⟨x.x.cl, x.x.seq⟩ : NmD)).getD ce0).x.h ++ ([(.int .i64 (((Z6 M (⟨x.x.cl, x.x.seq⟩ : NmD)).getD ce0).x.len)), (.int .i64 (((Z6 M (⟨x.x.cl, x.x.seq⟩ : NmD)).getD ce0).x.sb)), (.int .i64 (((Z6 M (⟨x.x.cl, x.x.seq⟩ : NmD)).getD ce0).x.sm)), (.slice ((Z6 M (⟨x.x.cl, x.x.seq⟩ : NmD)).getD ce0).sa (((Z6 M (⟨x.x.cl, x.x.seq⟩ : NmD)).getD ce0).S.length) (((Z6 M (⟨x.x.cl, x.x.seq⟩ : NmD)).getD ce0).sc))] : List Value))] w65 := (Sat.turnL (L' := [Z1 t 121 ([(.int .i64 (F)), (.int .i64 (Cn)), (.int .i64 (rp)), (.map (some tm))] : List Value), ZL B, Z1 b 110 ([(.map (some mb))] : List Value), ZA mb Z7 (Value.int .i64) (Zh (Zg Lb (Z68 rp x)))]) (R := [ZA tm nmV ceV M, Z5 w (ZI [Z1 t 121 [.int .i64 F, .int .i64 Cn, .int .i64 rp, .map (some tm)], ZA tm nmV ceV M, ZL B, Z1 b 110 [.map (some mb)], ZA mb Z7 (Value.int .i64) (Zh Lb)]).fp, Z1 b2 53 (([(.int .i64 (x.x.cl)), (.int .i64 (x.x.seq))] : List Value) ++ hc x.x.h ++ ([(.int .i64 (x.x.len)), (.int .i64 (x.x.sb)), (.int .i64 (x.x.sm)), (.slice x.sa x.S.length x.sc)] : List Value)), Z1 b6 31 (([(.int .i64 (0)), (.int .i64 (0)), (.int .i64 (0))] : List Value) ++ hc Zt ++ ([(.int .u64 (0)), (.int .i64 (0)), (.int .i64 (0))] : List Value)), Z1 b24 53 (([(.int .i64 (((Z6 M (⟨x.x.cl, x.x.seq⟩ : NmD)).getD ce0).x.cl)), (.int .i64 (((Z6 M (⟨x.x.cl, x.x.seq⟩ : NmD)).getD ce0).x.seq))] : List Value) ++ hc ((Z6 M (⟨x.x.cl, x.x.seq⟩ : NmD)).getD ce0).x.h ++ ([(.int .i64 (((Z6 M (⟨x.x.cl, x.x.seq⟩ : NmD)).getD ce0).x.len)), (.int .i64 (((Z6 M (⟨x.x.cl, x.x.seq⟩ : NmD)).getD ce0).x.sb)), (.int .i64 (((Z6 M (⟨x.x.cl, x.x.seq⟩ : NmD)).getD ce0).x.sm)), (.slice ((Z6 M (⟨x.x.cl, x.x.seq⟩ : NmD)).getD ce0).sa (((Z6 M (⟨x.x.cl, x.x.seq⟩ : NmD)).getD ce0).S.length) (((Z6 M (⟨x.x.cl, x.x.seq⟩ : NmD)).getD ce0).sc))] : List Value))]) H50 [0, 2, 3, 4] [1, 5, 6, 7, 8] (by decide) (by kernel_rfl) rfl T66).pick [0, 4, 1, 2, 3, 5, 6, 7, 8] (by decide)
     refine ⟨_, rfl, ?_⟩
     refine hK64 _ _ ?_
     clear hK64 K64
     refine ZQ (Z0 rfl) (fun K68 hK68 => ?_)
     refine Z0q (vs := (([(.int .i64 ((Z1t rp Lb x).r)), (.int .i64 ((Z1t rp Lb x).cl)), (.int .i64 ((Z1t rp Lb x).seq))] : List Value) ++ hc (Z1t rp Lb x).h ++ ([(.int .u64 ((Z1t rp Lb x).t)), (.int .i64 ((Z1t rp Lb x).sb)), (.int .i64 ((Z1t rp Lb x).sm))] : List Value))) (cs' := (([(.int .i64 ((Z1t rp Lb x).r)), (.int .i64 ((Z1t rp Lb x).cl)), (.int .i64 ((Z1t rp Lb x).seq))] : List Value) ++ hc (Z1t rp Lb x).h ++ ([(.int .u64 ((Z1t rp Lb x).t)), (.int .i64 ((Z1t rp Lb x).sb)), (.int .i64 ((Z1t rp Lb x).sm))] : List Value))) rfl H67 7 rfl rfl rfl rfl (by kernel_rfl) (Nat.le_of_ble_eq_true (by kernel_rfl)) (Nat.le_of_ble_eq_true (by kernel_rfl)) (by kernel_rfl) (by kernel_rfl) ?_
     intro w69 (H70 : Sat w [Z1 t 121 ([(.int .i64 (F)), (.int .i64 (Cn)), (.int .i64 (rp)), (.map (some tm))] : List Value), ZA tm nmV ceV M, ZL B, Z1 b 110 ([(.map (some mb))] : List Value), ZA mb Z7 (Value.int .i64) (Zh (Zg Lb (Z68 rp x))), Z5 w (ZI [Z1 t 121 [.int .i64 F, .int .i64 Cn, .int .i64 rp, .map (some tm)], ZA tm nmV ceV M, ZL B, Z1 b 110 [.map (some mb)], ZA mb Z7 (Value.int .i64) (Zh Lb)]).fp, Z1 b2 53 (([(.int .i64 (x.x.cl)), (.int .i64 (x.x.seq))] : List Value) ++ hc x.x.h ++ ([(.int .i64 (x.x.len)), (.int .i64 (x.x.sb)), (.int .i64 (x.x.sm)), (.slice x.sa x.S.length x.sc)] : List Value)), Z1 b6 31 (([(.int .i64 ((Z1t rp Lb x).r)), (.int .i64 ((Z1t rp Lb x).cl)), (.int .i64 ((Z1t rp Lb x).seq))] : List Value) ++ hc (Z1t rp Lb x).h ++ ([(.int .u64 ((Z1t rp Lb x).t)), (.int .i64 ((Z1t rp Lb x).sb)), (.int .i64 ((Z1t rp Lb x).sm))] : List Value)), Z1 b24 53 (([(.int .i64 (((Z6 M (⟨x.x.cl, x.x.seq⟩ : NmD)).getD ce0).x.cl)), (.int .i64 (((Z6 M (⟨x.x.cl, x.x.seq⟩ : NmD)).getD ce0).x.seq))] : List Value) ++ hc ((Z6 M (⟨x.x.cl, x.x.seq⟩ : NmD)).getD ce0).x.h ++ ([(.int .i64 (((Z6 M (⟨x.x.cl, x.x.seq⟩ : NmD)).getD ce0).x.len)), (.int .i64 (((Z6 M (⟨x.x.cl, x.x.seq⟩ : NmD)).getD ce0).x.sb)), (.int .i64 (((Z6 M (⟨x.x.cl, x.x.seq⟩ : NmD)).getD ce0).x.sm)), (.slice ((Z6 M (⟨x.x.cl, x.x.seq⟩ : NmD)).getD ce0).sa (((Z6 M (⟨x.x.cl, x.x.seq⟩ : NmD)).getD ce0).S.length) (((Z6 M (⟨x.x.cl, x.x.seq⟩ : NmD)).getD ce0).sc))] : List Value))] w69)
     refine hK68 _ _ ?_
     clear hK68 K68
     refine Z3 (Z0 rfl) (d := 9) (v := (.int .i64 (0))) rfl (by kernel_rfl) ?_
     refine Zi ?_
     refine Z4 ?_
     refine ZY ?_
     refine ZP ?_
     refine Z7s rfl (Z0e (vs := (([(.int .i64 ((Z1t rp Lb x).r)), (.int .i64 ((Z1t rp Lb x).cl)), (.int .i64 ((Z1t rp Lb x).seq))] : List Value) ++ hc (Z1t rp Lb x).h ++ ([(.int .u64 ((Z1t rp Lb x).t)), (.int .i64 ((Z1t rp Lb x).sb)), (.int .i64 ((Z1t rp Lb x).sm))] : List Value))) rfl (by kernel_rfl) (by kernel_rfl) (by exact Nat.le_of_ble_eq_true (by kernel_rfl)) (H70.at 7 rfl) (by kernel_rfl)) (ZJ (v := (.int .i64 (0))) rfl) ?_
     exact ⟨Z1t rp Lb x, 0, M, B, (Zg Lb (Z68 rp x)), rfl, (mk0 (by have q := b11; simpa using q) b33 (by have q := b34; simpa [nmX] using q) (by have q := b51; simpa [nmX] using q)), (fun _ => ⟨rfl, rfl⟩), (fun h => absurd rfl h), (.inl ⟨rfl, rfl, (fun _ => b33), (fun h => absurd rfl h)⟩), H70.pick [0, 1, 2, 3, 4, 5] (by decide)⟩
  ·refine Zj 32 (.bool false) (congrArg Value.bool b33) ?_
   refine Z0r rfl ?_
   refine ZZ ?_
   refine Z4 ?_
   refine Zb ?_
   refine ZO ?_
   refine Zb ?_
   refine Zl ?_
   refine Z3 (Z0 rfl) (d := 53) (v := (.agg ⟨(([(.int .i64 (x.x.cl)), (.int .i64 (x.x.seq))] : List Value) ++ hc x.x.h ++ ([(.int .i64 (x.x.len)), (.int .i64 (x.x.sb)), (.int .i64 (x.x.sm)), (.slice x.sa x.S.length x.sc)] : List Value))⟩)) rfl (Zs (vs := (([(.int .i64 (x.x.cl)), (.int .i64 (x.x.seq))] : List Value) ++ hc x.x.h ++ ([(.int .i64 (x.x.len)), (.int .i64 (x.x.sb)), (.int .i64 (x.x.sm)), (.slice x.sa x.S.length x.sc)] : List Value))) rfl (by kernel_rfl) (by kernel_rfl) (by exact Nat.le_of_ble_eq_true (by kernel_rfl)) (H30.at 6 rfl) (by kernel_rfl)) ?_
   refine ZQ (Z0 rfl) (fun K72 hK72 => ?_)
   refine ZX (d := 54) rfl (by kernel_rfl) (Z1y w29 x.x x.sa x.sc x.S (Z3g (c := x) (H30.at 2 rfl) hxT.bag) hxT.len) ?_
   rintro _ w73 ⟨rfl, u75⟩
   have H74 := H30.keepU u75
   refine ⟨_, rfl, ?_⟩
   refine hK72 _ _ ?_
   clear hK72 K72
   refine Z3 (Z0 rfl) (d := 55) (v := (.int .u64 (floor))) rfl (by kernel_rfl) ?_
   refine Z3 (Z0 rfl) (d := 56) (v := (.bool (decide ((Z8 x.S) ≤ floor)))) rfl (by kernel_rfl) ?_
   refine Z3 (Z0 rfl) (d := 52) (v := (.bool (decide ((Z8 x.S) ≤ floor)))) rfl (by kernel_rfl) ?_
   refine Zi ?_
   refine Z4 ?_
   refine (ZD (decide ((Z8 x.S) ≤ floor))).elim (fun b76 => ?_) (fun b76 => ?_)
   ·have g77 := of_decide_eq_true b76
    refine Zj 52 (.bool true) (congrArg Value.bool b76) ?_
    have g78 := of_decide_eq_true b76
    refine Z0p rfl ?_
    refine Zb ?_
    refine Zl ?_
    refine Z3 (Z0 rfl) (d := 57) (v := (.agg ⟨(([(.int .i64 (0)), (.int .i64 (0)), (.int .i64 (0))] : List Value) ++ hc Zt ++ ([(.int .u64 (0)), (.int .i64 (0)), (.int .i64 (0))] : List Value))⟩)) rfl (by kernel_rfl) ?_
    refine ZQ (Z0 rfl) (fun K79 hK79 => ?_)
    refine Z0q (vs := (([(.int .i64 (0)), (.int .i64 (0)), (.int .i64 (0))] : List Value) ++ hc Zt ++ ([(.int .u64 (0)), (.int .i64 (0)), (.int .i64 (0))] : List Value))) (cs' := (([(.int .i64 (0)), (.int .i64 (0)), (.int .i64 (0))] : List Value) ++ hc Zt ++ ([(.int .u64 (0)), (.int .i64 (0)), (.int .i64 (0))] : List Value))) rfl H74 7 rfl rfl rfl rfl (by kernel_rfl) (Nat.le_of_ble_eq_true (by kernel_rfl)) (Nat.le_of_ble_eq_true (by kernel_rfl)) (by kernel_rfl) (by kernel_rfl) ?_
    intro w80 (H81 : Sat w [Z1 t 121 ([(.int .i64 (F)), (.int .i64 (Cn)), (.int .i64 (rp)), (.map (some tm))] : List Value), ZA tm nmV ceV M, ZL B, Z1 b 110 ([(.map (some mb))] : List Value), ZA mb Z7 (Value.int .i64) (Zh Lb), Z5 w (ZI [Z1 t 121 [.int .i64 F, .int .i64 Cn, .int .i64 rp, .map (some tm)], ZA tm nmV ceV M, ZL B, Z1 b 110 [.map (some mb)], ZA mb Z7 (Value.int .i64) (Zh Lb)]).fp, Z1 b2 53 (([(.int .i64 (x.x.cl)), (.int .i64 (x.x.seq))] : List Value) ++ hc x.x.h ++ ([(.int .i64 (x.x.len)), (.int .i64 (x.x.sb)), (.int .i64 (x.x.sm)), (.slice x.sa x.S.length x.sc)] : List Value)), Z1 b6 31 (([(.int .i64 (0)), (.int .i64 (0)), (.int .i64 (0))] : List Value) ++ hc Zt ++ ([(.int .u64 (0)), (.int .i64 (0)), (.int .i64 (0))] : List Value)), Z1 b24 53 (([(.int .i64 (((Z6 M (⟨x.x.cl, x.x.seq⟩ : NmD)).getD ce0).x.cl)), (.int .i64 (((Z6 M (⟨x.x.cl, x.x.seq⟩ : NmD)).getD ce0).x.seq))] : List Value) ++ hc ((Z6 M (⟨x.x.cl, x.x.seq⟩ : NmD)).getD ce0).x.h ++ ([(.int .i64 (((Z6 M (⟨x.x.cl, x.x.seq⟩ : NmD)).getD ce0).x.len)), (.int .i64 (((Z6 M (⟨x.x.cl, x.x.seq⟩ : NmD)).getD ce0).x.sb)), (.int .i64 (((Z6 M (⟨x.x.cl, x.x.seq⟩ : NmD)).getD ce0).x.sm)), (.slice ((Z6 M (⟨x.x.cl, x.x.seq⟩ : NmD)).getD ce0).sa (((Z6 M (⟨x.x.cl, x.x.seq⟩ : NmD)).getD ce0).S.length) (((Z6 M (⟨x.x.cl, x.x.seq⟩ : NmD)).getD ce0).sc))] : List Value))] w80)
    refine hK79 _ _ ?_
    clear hK79 K79
    refine Z3 (Z0 rfl) (d := 9) (v := (.int .i64 (4))) rfl (by kernel_rfl) ?_
    refine Zi ?_
    refine Z4 ?_
    refine ZY ?_
    refine Z0u ?_
    refine ZP ?_
    refine Z7s rfl (Z0e (vs := (([(.int .i64 (0)), (.int .i64 (0)), (.int .i64 (0))] : List Value) ++ hc Zt ++ ([(.int .u64 (0)), (.int .i64 (0)), (.int .i64 (0))] : List Value))) rfl (by kernel_rfl) (by kernel_rfl) (by exact Nat.le_of_ble_eq_true (by kernel_rfl)) (H81.at 7 rfl) (by kernel_rfl)) (ZJ (v := (.int .i64 (4))) rfl) ?_
    exact ⟨Zf, 4, M, B, Lb, rfl, (mk4 (by have q := b11; simpa using q) b33 (of_decide_eq_true b76)), (fun h => absurd h (by decide)), (fun _ => rfl), (.inl ⟨rfl, rfl, (fun h => absurd h (by decide)), (fun _ => rfl)⟩), H81.pick [0, 1, 2, 3, 4, 5] (by decide)⟩
   ·have g83 := of_decide_eq_false b76
    refine Zj 52 (.bool false) (congrArg Value.bool b76) ?_
    have g84 := of_decide_eq_false b76
    refine Z0r rfl ?_
    refine Zb ?_
    refine Zl ?_
    refine Z3 (Z0 rfl) (d := 59) (v := (.pointer (some ⟨t, 0, none⟩))) rfl (by kernel_rfl) ?_
    refine Z3 (Z0 rfl) (d := 60) (v := (.pointer (some ⟨t, 0, none⟩))) rfl (by kernel_rfl) ?_
    refine Z3 (Z0 rfl) (d := 61) (v := (.pointer (some ⟨t, 3, none⟩))) rfl (by kernel_rfl) ?_
    refine Z3 (Z0 rfl) (d := 62) (v := (.map (some tm))) rfl (Za rfl (by kernel_rfl) (H74.cell 0 rfl rfl)) ?_
    refine Z3 (Z0 rfl) (d := 63) (v := (.int .i64 (((M).length : Int)))) rfl (e_len (kt := 24) (et := 53) (by kernel_rfl) (H74.at 1 rfl) rfl) ?_
    refine Z3 (Z0 rfl) (d := 64) (v := (.bool (decide (((M).length : Int) ≥ 64)))) rfl (by kernel_rfl) ?_
    refine Z3 (Z0 rfl) (d := 58) (v := (.bool (decide (((M).length : Int) ≥ 64)))) rfl (by kernel_rfl) ?_
    refine Zi ?_
    refine Z4 ?_
    refine (ZD (decide (((M).length : Int) ≥ 64))).elim (fun b85 => ?_) (fun b85 => ?_)
    ·have g86 := of_decide_eq_true b85
     refine Zj 58 (.bool true) (congrArg Value.bool b85) ?_
     have g87 := of_decide_eq_true b85
     refine Z0p rfl ?_
     refine Zb ?_
     refine Zl ?_
     refine Z3 (Z0 rfl) (d := 65) (v := (.agg ⟨(([(.int .i64 (0)), (.int .i64 (0)), (.int .i64 (0))] : List Value) ++ hc Zt ++ ([(.int .u64 (0)), (.int .i64 (0)), (.int .i64 (0))] : List Value))⟩)) rfl (by kernel_rfl) ?_
     refine ZQ (Z0 rfl) (fun K88 hK88 => ?_)
     refine Z0q (vs := (([(.int .i64 (0)), (.int .i64 (0)), (.int .i64 (0))] : List Value) ++ hc Zt ++ ([(.int .u64 (0)), (.int .i64 (0)), (.int .i64 (0))] : List Value))) (cs' := (([(.int .i64 (0)), (.int .i64 (0)), (.int .i64 (0))] : List Value) ++ hc Zt ++ ([(.int .u64 (0)), (.int .i64 (0)), (.int .i64 (0))] : List Value))) rfl H74 7 rfl rfl rfl rfl (by kernel_rfl) (Nat.le_of_ble_eq_true (by kernel_rfl)) (Nat.le_of_ble_eq_true (by kernel_rfl)) (by kernel_rfl) (by kernel_rfl) ?_
     intro w89 (H90 : Sat w [Z1 t 121 ([(.int .i64 (F)), (.int .i64 (Cn)), (.int .i64 (rp)), (.map (some tm))] : List Value), ZA tm nmV ceV M, ZL B, Z1 b 110 ([(.map (some mb))] : List Value), ZA mb Z7 (Value.int .i64) (Zh Lb), Z5 w (ZI [Z1 t 121 [.int .i64 F, .int .i64 Cn, .int .i64 rp, .map (some tm)], ZA tm nmV ceV M, ZL B, Z1 b 110 [.map (some mb)], ZA mb Z7 (Value.int .i64) (Zh Lb)]).fp, Z1 b2 53 (([(.int .i64 (x.x.cl)), (.int .i64 (x.x.seq))] : List Value) ++ hc x.x.h ++ ([(.int .i64 (x.x.len)), (.int .i64 (x.x.sb)), (.int .i64 (x.x.sm)), (.slice x.sa x.S.length x.sc)] : List Value)), Z1 b6 31 (([(.int .i64 (0)), (.int .i64 (0)), (.int .i64 (0))] : List Value) ++ hc Zt ++ ([(.int .u64 (0)), (.int .i64 (0)), (.int .i64 (0))] : List Value)), Z1 b24 53 (([(.int .i64 (((Z6 M (⟨x.x.cl, x.x.seq⟩ : NmD)).getD ce0).x.cl)), (.int .i64 (((Z6 M (⟨x.x.cl, x.x.seq⟩ : NmD)).getD ce0).x.seq))] : List Value) ++ hc ((Z6 M (⟨x.x.cl, x.x.seq⟩ : NmD)).getD ce0).x.h ++ ([(.int .i64 (((Z6 M (⟨x.x.cl, x.x.seq⟩ : NmD)).getD ce0).x.len)), (.int .i64 (((Z6 M (⟨x.x.cl, x.x.seq⟩ : NmD)).getD ce0).x.sb)), (.int .i64 (((Z6 M (⟨x.x.cl, x.x.seq⟩ : NmD)).getD ce0).x.sm)), (.slice ((Z6 M (⟨x.x.cl, x.x.seq⟩ : NmD)).getD ce0).sa (((Z6 M (⟨x.x.cl, x.x.seq⟩ : NmD)).getD ce0).S.length) (((Z6 M (⟨x.x.cl, x.x.seq⟩ : NmD)).getD ce0).sc))] : List Value))] w89)
     refine hK88 _ _ ?_
     clear hK88 K88
     refine Z3 (Z0 rfl) (d := 9) (v := (.int .i64 (7))) rfl (by kernel_rfl) ?_
     refine Zi ?_
     refine Z4 ?_
     refine ZY ?_
     refine Z0u ?_
     refine ZP ?_
     refine Z7s rfl (Z0e (vs := (([(.int .i64 (0)), (.int .i64 (0)), (.int .i64 (0))] : List Value) ++ hc Zt ++ ([(.int .u64 (0)), (.int .i64 (0)), (.int .i64 (0))] : List Value))) rfl (by kernel_rfl) (by kernel_rfl) (by exact Nat.le_of_ble_eq_true (by kernel_rfl)) (H90.at 7 rfl) (by kernel_rfl)) (ZJ (v := (.int .i64 (7))) rfl) ?_
     exact ⟨Zf, 7, M, B, Lb, rfl, (mk7 (by have q := b11; simpa using q) b33 (of_decide_eq_false b76) (by have q := of_decide_eq_true b85; omega)), (fun h => absurd h (by decide)), (fun _ => rfl), (.inl ⟨rfl, rfl, (fun h => absurd h (by decide)), (fun _ => rfl)⟩), H90.pick [0, 1, 2, 3, 4, 5] (by decide)⟩
    ·have g92 := of_decide_eq_false b85
     refine Zj 58 (.bool false) (congrArg Value.bool b85) ?_
     have g93 := of_decide_eq_false b85
     refine Z0r rfl ?_
     refine ZZ ?_
     refine ZE ?_
     refine Z4 ?_
     refine Zb ?_
     refine Z0f H74 [Z1 t 121 ([(.int .i64 (F)), (.int .i64 (Cn)), (.int .i64 (rp)), (.map (some tm))] : List Value), ZL B, Z1 b 110 ([(.map (some mb))] : List Value), ZA mb Z7 (Value.int .i64) (Zh Lb), Z5 w (ZI [Z1 t 121 [.int .i64 F, .int .i64 Cn, .int .i64 rp, .map (some tm)], ZA tm nmV ceV M, ZL B, Z1 b 110 [.map (some mb)], ZA mb Z7 (Value.int .i64) (Zh Lb)]).fp, Z1 b2 53 (([(.int .i64 (x.x.cl)), (.int .i64 (x.x.seq))] : List Value) ++ hc x.x.h ++ ([(.int .i64 (x.x.len)), (.int .i64 (x.x.sb)), (.int .i64 (x.x.sm)), (.slice x.sa x.S.length x.sc)] : List Value)), Z1 b6 31 (([(.int .i64 (0)), (.int .i64 (0)), (.int .i64 (0))] : List Value) ++ hc Zt ++ ([(.int .u64 (0)), (.int .i64 (0)), (.int .i64 (0))] : List Value)), Z1 b24 53 (([(.int .i64 (((Z6 M (⟨x.x.cl, x.x.seq⟩ : NmD)).getD ce0).x.cl)), (.int .i64 (((Z6 M (⟨x.x.cl, x.x.seq⟩ : NmD)).getD ce0).x.seq))] : List Value) ++ hc ((Z6 M (⟨x.x.cl, x.x.seq⟩ : NmD)).getD ce0).x.h ++ ([(.int .i64 (((Z6 M (⟨x.x.cl, x.x.seq⟩ : NmD)).getD ce0).x.len)), (.int .i64 (((Z6 M (⟨x.x.cl, x.x.seq⟩ : NmD)).getD ce0).x.sb)), (.int .i64 (((Z6 M (⟨x.x.cl, x.x.seq⟩ : NmD)).getD ce0).x.sm)), (.slice ((Z6 M (⟨x.x.cl, x.x.seq⟩ : NmD)).getD ce0).sa (((Z6 M (⟨x.x.cl, x.x.seq⟩ : NmD)).getD ce0).S.length) (((Z6 M (⟨x.x.cl, x.x.seq⟩ : NmD)).getD ce0).sc))] : List Value))] 10 rfl (by kernel_rfl) (fun Hx => (Hx.pick [0, 2, 3, 4, 5, 6, 7, 8] (by decide))) ?_
     intro w94 H95 S96
     refine ZM 0 rfl (by kernel_rfl) (by kernel_rfl) (by kernel_rfl) (fun _ _ _ h => h) S96 (Z0 rfl) (d := 66) (v := (.pointer (some ⟨t, 0, none⟩))) rfl (fun _ H' => (by kernel_rfl)) ?_
     refine ZM 1 rfl (by kernel_rfl) (by kernel_rfl) (by kernel_rfl) (fun _ _ _ h => h) S96 (Z0 rfl) (d := 67) (v := (.pointer (some ⟨t, 0, none⟩))) rfl (fun _ H' => (by kernel_rfl)) ?_
     refine ZM 2 rfl (by kernel_rfl) (by kernel_rfl) (by kernel_rfl) (fun _ _ _ h => h) S96 (Z0 rfl) (d := 68) (v := (.pointer (some ⟨t, 3, none⟩))) rfl (fun _ H' => (by kernel_rfl)) ?_
     refine ZM 3 rfl (by kernel_rfl) (by kernel_rfl) (by kernel_rfl) (fun _ _ _ h => h) S96 (Z0 rfl) (d := 69) (v := (.map (some tm))) rfl (fun _ H' => (Za rfl (by kernel_rfl) (H'.cell 0 rfl rfl))) ?_
     refine ZM 4 rfl (by kernel_rfl) (by kernel_rfl) (by kernel_rfl) (fun _ _ _ h => h) S96 (Z0 rfl) (d := 70) (v := (.pointer (some ⟨b2, 0, none⟩))) rfl (fun _ H' => (by kernel_rfl)) ?_
     refine ZM 5 rfl (by kernel_rfl) (by kernel_rfl) (by kernel_rfl) (fun _ _ _ h => h) S96 (Z0 rfl) (d := 71) (v := (.pointer (some ⟨b2, 0, none⟩))) rfl (fun _ H' => (by kernel_rfl)) ?_
     refine ZM 6 rfl (by kernel_rfl) (by kernel_rfl) (by kernel_rfl) (fun _ _ _ h => h) S96 (Z0 rfl) (d := 72) (v := (.agg ⟨([(.int .i64 (x.x.cl)), (.int .i64 (x.x.seq))] : List Value)⟩)) rfl (fun _ H' => (Zs (vs := ([(.int .i64 (x.x.cl)), (.int .i64 (x.x.seq))] : List Value)) rfl (by kernel_rfl) (by kernel_rfl) (by exact Nat.le_of_ble_eq_true (by kernel_rfl)) (H'.at 5 rfl) (by kernel_rfl))) ?_
     refine ZM 7 rfl (by kernel_rfl) (by kernel_rfl) (by kernel_rfl) (fun _ _ _ h => h) S96 (Z0 rfl) (d := 73) (v := (.agg ⟨(([(.int .i64 (x.x.cl)), (.int .i64 (x.x.seq))] : List Value) ++ hc x.x.h ++ ([(.int .i64 (x.x.len)), (.int .i64 (x.x.sb)), (.int .i64 (x.x.sm)), (.slice x.sa x.S.length x.sc)] : List Value))⟩)) rfl (fun _ H' => (Zs (vs := (([(.int .i64 (x.x.cl)), (.int .i64 (x.x.seq))] : List Value) ++ hc x.x.h ++ ([(.int .i64 (x.x.len)), (.int .i64 (x.x.sb)), (.int .i64 (x.x.sm)), (.slice x.sa x.S.length x.sc)] : List Value))) rfl (by kernel_rfl) (by kernel_rfl) (by exact Nat.le_of_ble_eq_true (by kernel_rfl)) (H'.at 5 rfl) (by kernel_rfl))) ?_
     refine Z1l 8 rfl (by kernel_rfl) (Z0 rfl) (fun K97 hK97 => ?_)
     refine ZX (d := 74) rfl (by kernel_rfl) (Z3V w94 x.x x.sa x.sc x.S ((H95.at 2 rfl : (ZL B).ok _) _ hxT.bag) (Nat.le_trans hxT.len (by decide))) ?_
     rintro _ w98 ⟨u99, rfl, k100, p101, q102⟩
     have H103 : Sat w [Z1 t 121 ([(.int .i64 (F)), (.int .i64 (Cn)), (.int .i64 (rp)), (.map (some tm))] : List Value), ZA tm nmV ceV M, ZL B, Z1 b 110 ([(.map (some mb))] : List Value), ZA mb Z7 (Value.int .i64) (Zh Lb), Z5 w (ZI [Z1 t 121 [.int .i64 F, .int .i64 Cn, .int .i64 rp, .map (some tm)], ZA tm nmV ceV M, ZL B, Z1 b 110 [.map (some mb)], ZA mb Z7 (Value.int .i64) (Zh Lb)]).fp, Z1 b2 53 (([(.int .i64 (x.x.cl)), (.int .i64 (x.x.seq))] : List Value) ++ hc x.x.h ++ ([(.int .i64 (x.x.len)), (.int .i64 (x.x.sb)), (.int .i64 (x.x.sm)), (.slice x.sa x.S.length x.sc)] : List Value)), Z1 b6 31 (([(.int .i64 (0)), (.int .i64 (0)), (.int .i64 (0))] : List Value) ++ hc Zt ++ ([(.int .u64 (0)), (.int .i64 (0)), (.int .i64 (0))] : List Value)), Z1 b24 53 (([(.int .i64 (((Z6 M (⟨x.x.cl, x.x.seq⟩ : NmD)).getD ce0).x.cl)), (.int .i64 (((Z6 M (⟨x.x.cl, x.x.seq⟩ : NmD)).getD ce0).x.seq))] : List Value) ++ hc ((Z6 M (⟨x.x.cl, x.x.seq⟩ : NmD)).getD ce0).x.h ++ ([(.int .i64 (((Z6 M (⟨x.x.cl, x.x.seq⟩ : NmD)).getD ce0).x.len)), (.int .i64 (((Z6 M (⟨x.x.cl, x.x.seq⟩ : NmD)).getD ce0).x.sb)), (.int .i64 (((Z6 M (⟨x.x.cl, x.x.seq⟩ : NmD)).getD ce0).x.sm)), (.slice ((Z6 M (⟨x.x.cl, x.x.seq⟩ : NmD)).getD ce0).sa (((Z6 M (⟨x.x.cl, x.x.seq⟩ : NmD)).getD ce0).S.length) (((Z6 M (⟨x.x.cl, x.x.seq⟩ : NmD)).getD ce0).sc))] : List Value)), Zd 101 38 u99 x.S.length (x.S.flatMap Z0o)] w98 := H95.addU p101 k100 q102
     obtain ⟨a104, c105, rfl⟩ := Z9 (H103.at 9 rfl)
     refine ⟨_, rfl, ?_⟩
     have S106 := H103.pick [0, 2, 3, 4, 5, 6, 7, 8] (by decide)
     refine hK97 _ _ S106 ?_
     clear hK97 K97
     refine Z1l 9 rfl (by kernel_rfl) (Z0 rfl) (fun K107 hK107 => ?_)
     refine Z4q (kt := 24) (et := 53) rfl H103 1 rfl nmK (by kernel_rfl) rfl (⟨x.x.cl, x.x.seq⟩ : NmD) rfl (⟨x.x, a104, c105, x.S⟩ : CeR) rfl ?_
     intro w108 (H109 : Sat w [Z1 t 121 ([(.int .i64 (F)), (.int .i64 (Cn)), (.int .i64 (rp)), (.map (some tm))] : List Value), ZA tm nmV ceV (Z2r M (⟨x.x.cl, x.x.seq⟩ : NmD) (⟨x.x, a104, c105, x.S⟩ : CeR)), ZL B, Z1 b 110 ([(.map (some mb))] : List Value), ZA mb Z7 (Value.int .i64) (Zh Lb), Z5 w (ZI [Z1 t 121 [.int .i64 F, .int .i64 Cn, .int .i64 rp, .map (some tm)], ZA tm nmV ceV M, ZL B, Z1 b 110 [.map (some mb)], ZA mb Z7 (Value.int .i64) (Zh Lb)]).fp, Z1 b2 53 (([(.int .i64 (x.x.cl)), (.int .i64 (x.x.seq))] : List Value) ++ hc x.x.h ++ ([(.int .i64 (x.x.len)), (.int .i64 (x.x.sb)), (.int .i64 (x.x.sm)), (.slice x.sa x.S.length x.sc)] : List Value)), Z1 b6 31 (([(.int .i64 (0)), (.int .i64 (0)), (.int .i64 (0))] : List Value) ++ hc Zt ++ ([(.int .u64 (0)), (.int .i64 (0)), (.int .i64 (0))] : List Value)), Z1 b24 53 (([(.int .i64 (((Z6 M (⟨x.x.cl, x.x.seq⟩ : NmD)).getD ce0).x.cl)), (.int .i64 (((Z6 M (⟨x.x.cl, x.x.seq⟩ : NmD)).getD ce0).x.seq))] : List Value) ++ hc ((Z6 M (⟨x.x.cl, x.x.seq⟩ : NmD)).getD ce0).x.h ++ ([(.int .i64 (((Z6 M (⟨x.x.cl, x.x.seq⟩ : NmD)).getD ce0).x.len)), (.int .i64 (((Z6 M (⟨x.x.cl, x.x.seq⟩ : NmD)).getD ce0).x.sb)), (.int .i64 (((Z6 M (⟨x.x.cl, x.x.seq⟩ : NmD)).getD ce0).x.sm)), (.slice ((Z6 M (⟨x.x.cl, x.x.seq⟩ : NmD)).getD ce0).sa (((Z6 M (⟨x.x.cl, x.x.seq⟩ : NmD)).getD ce0).S.length) (((Z6 M (⟨x.x.cl, x.x.seq⟩ : NmD)).getD ce0).sc))] : List Value)), Zd 101 38 (.slice a104 x.S.length c105) x.S.length (x.S.flatMap Z0o)] w108)
     have S110 := H109.pick [0, 2, 3, 4, 5, 6, 7, 8] (by decide)
     refine hK107 _ _ S110 ?_
     clear hK107 K107
     refine Z20 (by kernel_rfl) ?_
     refine Z4 ?_
     refine Zb ?_
     have H111 : Sat w [ZL (stC (⟨x.x, a104, c105, x.S⟩ : CeR) :: B), Z1 t 121 ([(.int .i64 (F)), (.int .i64 (Cn)), (.int .i64 (rp)), (.map (some tm))] : List Value), ZA tm nmV ceV (Z2r M (⟨x.x.cl, x.x.seq⟩ : NmD) (⟨x.x, a104, c105, x.S⟩ : CeR)), Z1 b 110 ([(.map (some mb))] : List Value), ZA mb Z7 (Value.int .i64) (Zh Lb), Z5 w (ZI [Z1 t 121 [.int .i64 F, .int .i64 Cn, .int .i64 rp, .map (some tm)], ZA tm nmV ceV M, ZL B, Z1 b 110 [.map (some mb)], ZA mb Z7 (Value.int .i64) (Zh Lb)]).fp, Z1 b2 53 (([(.int .i64 (x.x.cl)), (.int .i64 (x.x.seq))] : List Value) ++ hc x.x.h ++ ([(.int .i64 (x.x.len)), (.int .i64 (x.x.sb)), (.int .i64 (x.x.sm)), (.slice x.sa x.S.length x.sc)] : List Value)), Z1 b6 31 (([(.int .i64 (0)), (.int .i64 (0)), (.int .i64 (0))] : List Value) ++ hc Zt ++ ([(.int .u64 (0)), (.int .i64 (0)), (.int .i64 (0))] : List Value)), Z1 b24 53 (([(.int .i64 (((Z6 M (⟨x.x.cl, x.x.seq⟩ : NmD)).getD ce0).x.cl)), (.int .i64 (((Z6 M (⟨x.x.cl, x.x.seq⟩ : NmD)).getD ce0).x.seq))] : List Value) ++ hc ((Z6 M (⟨x.x.cl, x.x.seq⟩ : NmD)).getD ce0).x.h ++ ([(.int .i64 (((Z6 M (⟨x.x.cl, x.x.seq⟩ : NmD)).getD ce0).x.len)), (.int .i64 (((Z6 M (⟨x.x.cl, x.x.seq⟩ : NmD)).getD ce0).x.sb)), (.int .i64 (((Z6 M (⟨x.x.cl, x.x.seq⟩ : NmD)).getD ce0).x.sm)), (.slice ((Z6 M (⟨x.x.cl, x.x.seq⟩ : NmD)).getD ce0).sa (((Z6 M (⟨x.x.cl, x.x.seq⟩ : NmD)).getD ce0).S.length) (((Z6 M (⟨x.x.cl, x.x.seq⟩ : NmD)).getD ce0).sc))] : List Value))] w108 := (H109.pick [2, 9, 0, 1, 3, 4, 5, 6, 7, 8] (by decide)).bag
     have H112 : Sat w [Z1 t 121 ([(.int .i64 (F)), (.int .i64 (Cn)), (.int .i64 (rp)), (.map (some tm))] : List Value), ZA tm nmV ceV (Z2r M (⟨x.x.cl, x.x.seq⟩ : NmD) (⟨x.x, a104, c105, x.S⟩ : CeR)), ZL (stC (⟨x.x, a104, c105, x.S⟩ : CeR) :: B), Z1 b 110 ([(.map (some mb))] : List Value), ZA mb Z7 (Value.int .i64) (Zh Lb), Z5 w (ZI [Z1 t 121 [.int .i64 F, .int .i64 Cn, .int .i64 rp, .map (some tm)], ZA tm nmV ceV M, ZL B, Z1 b 110 [.map (some mb)], ZA mb Z7 (Value.int .i64) (Zh Lb)]).fp, Z1 b2 53 (([(.int .i64 (x.x.cl)), (.int .i64 (x.x.seq))] : List Value) ++ hc x.x.h ++ ([(.int .i64 (x.x.len)), (.int .i64 (x.x.sb)), (.int .i64 (x.x.sm)), (.slice x.sa x.S.length x.sc)] : List Value)), Z1 b6 31 (([(.int .i64 (0)), (.int .i64 (0)), (.int .i64 (0))] : List Value) ++ hc Zt ++ ([(.int .u64 (0)), (.int .i64 (0)), (.int .i64 (0))] : List Value)), Z1 b24 53 (([(.int .i64 (((Z6 M (⟨x.x.cl, x.x.seq⟩ : NmD)).getD ce0).x.cl)), (.int .i64 (((Z6 M (⟨x.x.cl, x.x.seq⟩ : NmD)).getD ce0).x.seq))] : List Value) ++ hc ((Z6 M (⟨x.x.cl, x.x.seq⟩ : NmD)).getD ce0).x.h ++ ([(.int .i64 (((Z6 M (⟨x.x.cl, x.x.seq⟩ : NmD)).getD ce0).x.len)), (.int .i64 (((Z6 M (⟨x.x.cl, x.x.seq⟩ : NmD)).getD ce0).x.sb)), (.int .i64 (((Z6 M (⟨x.x.cl, x.x.seq⟩ : NmD)).getD ce0).x.sm)), (.slice ((Z6 M (⟨x.x.cl, x.x.seq⟩ : NmD)).getD ce0).sa (((Z6 M (⟨x.x.cl, x.x.seq⟩ : NmD)).getD ce0).S.length) (((Z6 M (⟨x.x.cl, x.x.seq⟩ : NmD)).getD ce0).sc))] : List Value))] w108 := H111.pick [1, 2, 0, 3, 4, 5, 6, 7, 8] (by decide)
     refine Zl ?_
     refine Z3 (Z0 rfl) (d := 75) (v := (.pointer (some ⟨t, 0, none⟩))) rfl (by kernel_rfl) ?_
     refine Z3 (Z0 rfl) (d := 76) (v := (.pointer (some ⟨b, 0, none⟩))) rfl (by kernel_rfl) ?_
     refine Z3 (Z0 rfl) (d := 77) (v := (.agg ⟨(([(.int .i64 (x.x.cl)), (.int .i64 (x.x.seq))] : List Value) ++ hc x.x.h ++ ([(.int .i64 (x.x.len)), (.int .i64 (x.x.sb)), (.int .i64 (x.x.sm)), (.slice x.sa x.S.length x.sc)] : List Value))⟩)) rfl (Zs (vs := (([(.int .i64 (x.x.cl)), (.int .i64 (x.x.seq))] : List Value) ++ hc x.x.h ++ ([(.int .i64 (x.x.len)), (.int .i64 (x.x.sb)), (.int .i64 (x.x.sm)), (.slice x.sa x.S.length x.sc)] : List Value))) rfl (by kernel_rfl) (by kernel_rfl) (by exact Nat.le_of_ble_eq_true (by kernel_rfl)) (H112.at 6 rfl) (by kernel_rfl)) ?_
     refine ZQ (Z0 rfl) (fun K113 hK113 => ?_)
     refine ZX (d := 78) rfl (by kernel_rfl) (Z5K w108 t F Cn rp tm (stC (⟨x.x, a104, c105, x.S⟩ : CeR) :: B) b mb Lb (H112.fin [0, 2, 3, 4] (by decide) rfl) hrp hlb x (hxT.more _)) ?_
     rintro _ w114 ⟨rfl, T115⟩
     have H116 : Sat w [Z1 t 121 ([(.int .i64 (F)), (.int .i64 (Cn)), (.int .i64 (rp)), (.map (some tm))] : List Value), ZA tm nmV ceV (Z2r M (⟨x.x.cl, x.x.seq⟩ : NmD) (⟨x.x, a104, c105, x.S⟩ : CeR)), ZL (stC (⟨x.x, a104, c105, x.S⟩ : CeR) :: B), Z1 b 110 ([(.map (some mb))] : List Value), ZA mb Z7 (Value.int .i64) (Zh (Zg Lb (Z68 rp x))), Z5 w (ZI [Z1 t 121 [.int .i64 F, .int .i64 Cn, .int .i64 rp, .map (some tm)], ZA tm nmV ceV M, ZL B, Z1 b 110 [.map (some mb)], ZA mb Z7 (Value.int .i64) (Zh Lb)]).fp, Z1 b2 53 (([(.int .i64 (x.x.cl)), (.int .i64 (x.x.seq))] : List Value) ++ hc x.x.h ++ ([(.int .i64 (x.x.len)), (.int .i64 (x.x.sb)), (.int .i64 (x.x.sm)), (.slice x.sa x.S.length x.sc)] : List Value)), Z1 b6 31 (([(.int .i64 (0)), (.int .i64 (0)), (.int .i64 (0))] : List Value) ++ hc Zt ++ ([(.int .u64 (0)), (.int .i64 (0)), (.int .i64 (0))] : List Value)), Z1 b24 53 (([(.int .i64 (((Z6 M (⟨x.x.cl, x.x.seq⟩ : NmD)).getD ce0).x.cl)), (.int .i64 (((Z6 M (⟨x.x.cl, x.x.seq⟩ : NmD)).getD ce0).x.seq))] : List Value) ++ hc ((Z6 M (⟨x.x.cl, x.x.seq⟩ : NmD)).getD ce0).x.h ++ ([(.int .i64 (((Z6 M (⟨x.x.cl, x.x.seq⟩ : NmD)).getD ce0).x.len)), (.int .i64 (((Z6 M (⟨x.x.cl, x.x.seq⟩ : NmD)).getD ce0).x.sb)), (.int .i64 (((Z6 M (⟨x.x.cl, x.x.seq⟩ : NmD)).getD ce0).x.sm)), (.slice ((Z6 M (⟨x.x.cl, x.x.seq⟩ : NmD)).getD ce0).sa (((Z6 M (⟨x.x.cl, x.x.seq⟩ : NmD)).getD ce0).S.length) (((Z6 M (⟨x.x.cl, x.x.seq⟩ : NmD)).getD ce0).sc))] : List Value))] w114 := (Sat.turnL (L' := [Z1 t 121 ([(.int .i64 (F)), (.int .i64 (Cn)), (.int .i64 (rp)), (.map (some tm))] : List Value), ZL (stC (⟨x.x, a104, c105, x.S⟩ : CeR) :: B), Z1 b 110 ([(.map (some mb))] : List Value), ZA mb Z7 (Value.int .i64) (Zh (Zg Lb (Z68 rp x)))]) (R := [ZA tm nmV ceV (Z2r M (⟨x.x.cl, x.x.seq⟩ : NmD) (⟨x.x, a104, c105, x.S⟩ : CeR)), Z5 w (ZI [Z1 t 121 [.int .i64 F, .int .i64 Cn, .int .i64 rp, .map (some tm)], ZA tm nmV ceV M, ZL B, Z1 b 110 [.map (some mb)], ZA mb Z7 (Value.int .i64) (Zh Lb)]).fp, Z1 b2 53 (([(.int .i64 (x.x.cl)), (.int .i64 (x.x.seq))] : List Value) ++ hc x.x.h ++ ([(.int .i64 (x.x.len)), (.int .i64 (x.x.sb)), (.int .i64 (x.x.sm)), (.slice x.sa x.S.length x.sc)] : List Value)), Z1 b6 31 (([(.int .i64 (0)), (.int .i64 (0)), (.int .i64 (0))] : List Value) ++ hc Zt ++ ([(.int .u64 (0)), (.int .i64 (0)), (.int .i64 (0))] : List Value)), Z1 b24 53 (([(.int .i64 (((Z6 M (⟨x.x.cl, x.x.seq⟩ : NmD)).getD ce0).x.cl)), (.int .i64 (((Z6 M (⟨x.x.cl, x.x.seq⟩ : NmD)).getD ce0).x.seq))] : List Value) ++ hc ((Z6 M (⟨x.x.cl, x.x.seq⟩ : NmD)).getD ce0).x.h ++ ([(.int .i64 (((Z6 M (⟨x.x.cl, x.x.seq⟩ : NmD)).getD ce0).x.len)), (.int .i64 (((Z6 M (⟨x.x.cl, x.x.seq⟩ : NmD)).getD ce0).x.sb)), (.int .i64 (((Z6 M (⟨x.x.cl, x.x.seq⟩ : NmD)).getD ce0).x.sm)), (.slice ((Z6 M (⟨x.x.cl, x.x.seq⟩ : NmD)).getD ce0).sa (((Z6 M (⟨x.x.cl, x.x.seq⟩ : NmD)).getD ce0).S.length) (((Z6 M (⟨x.x.cl, x.x.seq⟩ : NmD)).getD ce0).sc))] : List Value))]) H112 [0, 2, 3, 4] [1, 5, 6, 7, 8] (by decide) (by kernel_rfl) rfl T115).pick [0, 4, 1, 2, 3, 5, 6, 7, 8] (by decide)
     refine ⟨_, rfl, ?_⟩
     refine hK113 _ _ ?_
     clear hK113 K113
     refine ZQ (Z0 rfl) (fun K117 hK117 => ?_)
     refine Z0q (vs := (([(.int .i64 ((Z1t rp Lb x).r)), (.int .i64 ((Z1t rp Lb x).cl)), (.int .i64 ((Z1t rp Lb x).seq))] : List Value) ++ hc (Z1t rp Lb x).h ++ ([(.int .u64 ((Z1t rp Lb x).t)), (.int .i64 ((Z1t rp Lb x).sb)), (.int .i64 ((Z1t rp Lb x).sm))] : List Value))) (cs' := (([(.int .i64 ((Z1t rp Lb x).r)), (.int .i64 ((Z1t rp Lb x).cl)), (.int .i64 ((Z1t rp Lb x).seq))] : List Value) ++ hc (Z1t rp Lb x).h ++ ([(.int .u64 ((Z1t rp Lb x).t)), (.int .i64 ((Z1t rp Lb x).sb)), (.int .i64 ((Z1t rp Lb x).sm))] : List Value))) rfl H116 7 rfl rfl rfl rfl (by kernel_rfl) (Nat.le_of_ble_eq_true (by kernel_rfl)) (Nat.le_of_ble_eq_true (by kernel_rfl)) (by kernel_rfl) (by kernel_rfl) ?_
     intro w118 (H119 : Sat w [Z1 t 121 ([(.int .i64 (F)), (.int .i64 (Cn)), (.int .i64 (rp)), (.map (some tm))] : List Value), ZA tm nmV ceV (Z2r M (⟨x.x.cl, x.x.seq⟩ : NmD) (⟨x.x, a104, c105, x.S⟩ : CeR)), ZL (stC (⟨x.x, a104, c105, x.S⟩ : CeR) :: B), Z1 b 110 ([(.map (some mb))] : List Value), ZA mb Z7 (Value.int .i64) (Zh (Zg Lb (Z68 rp x))), Z5 w (ZI [Z1 t 121 [.int .i64 F, .int .i64 Cn, .int .i64 rp, .map (some tm)], ZA tm nmV ceV M, ZL B, Z1 b 110 [.map (some mb)], ZA mb Z7 (Value.int .i64) (Zh Lb)]).fp, Z1 b2 53 (([(.int .i64 (x.x.cl)), (.int .i64 (x.x.seq))] : List Value) ++ hc x.x.h ++ ([(.int .i64 (x.x.len)), (.int .i64 (x.x.sb)), (.int .i64 (x.x.sm)), (.slice x.sa x.S.length x.sc)] : List Value)), Z1 b6 31 (([(.int .i64 ((Z1t rp Lb x).r)), (.int .i64 ((Z1t rp Lb x).cl)), (.int .i64 ((Z1t rp Lb x).seq))] : List Value) ++ hc (Z1t rp Lb x).h ++ ([(.int .u64 ((Z1t rp Lb x).t)), (.int .i64 ((Z1t rp Lb x).sb)), (.int .i64 ((Z1t rp Lb x).sm))] : List Value)), Z1 b24 53 (([(.int .i64 (((Z6 M (⟨x.x.cl, x.x.seq⟩ : NmD)).getD ce0).x.cl)), (.int .i64 (((Z6 M (⟨x.x.cl, x.x.seq⟩ : NmD)).getD ce0).x.seq))] : List Value) ++ hc ((Z6 M (⟨x.x.cl, x.x.seq⟩ : NmD)).getD ce0).x.h ++ ([(.int .i64 (((Z6 M (⟨x.x.cl, x.x.seq⟩ : NmD)).getD ce0).x.len)), (.int .i64 (((Z6 M (⟨x.x.cl, x.x.seq⟩ : NmD)).getD ce0).x.sb)), (.int .i64 (((Z6 M (⟨x.x.cl, x.x.seq⟩ : NmD)).getD ce0).x.sm)), (.slice ((Z6 M (⟨x.x.cl, x.x.seq⟩ : NmD)).getD ce0).sa (((Z6 M (⟨x.x.cl, x.x.seq⟩ : NmD)).getD ce0).S.length) (((Z6 M (⟨x.x.cl, x.x.seq⟩ : NmD)).getD ce0).sc))] : List Value))] w118)
     refine hK117 _ _ ?_
     clear hK117 K117
     refine Z3 (Z0 rfl) (d := 9) (v := (.int .i64 (0))) rfl (by kernel_rfl) ?_
     refine Zi ?_
     refine Z4 ?_
     refine ZY ?_
     refine Z7s rfl (Z0e (vs := (([(.int .i64 ((Z1t rp Lb x).r)), (.int .i64 ((Z1t rp Lb x).cl)), (.int .i64 ((Z1t rp Lb x).seq))] : List Value) ++ hc (Z1t rp Lb x).h ++ ([(.int .u64 ((Z1t rp Lb x).t)), (.int .i64 ((Z1t rp Lb x).sb)), (.int .i64 ((Z1t rp Lb x).sm))] : List Value))) rfl (by kernel_rfl) (by kernel_rfl) (by exact Nat.le_of_ble_eq_true (by kernel_rfl)) (H119.at 7 rfl) (by kernel_rfl)) (ZJ (v := (.int .i64 (0))) rfl) ?_
     exact ⟨Z1t rp Lb x, 0, (Z2r M (⟨x.x.cl, x.x.seq⟩ : NmD) (⟨x.x, a104, c105, x.S⟩ : CeR)), (stC (⟨x.x, a104, c105, x.S⟩ : CeR) :: B), (Zg Lb (Z68 rp x)), rfl, (mkn (by have q := b11; simpa using q) b33 (of_decide_eq_false b76) (by have q := of_decide_eq_false b85; omega)), (fun _ => ⟨rfl, rfl⟩), (fun h => absurd rfl h), (.inr ⟨⟨rfl, (by have q := b11; simpa using q)⟩, b33, (⟨x.x, a104, c105, x.S⟩ : CeR).sa, (⟨x.x, a104, c105, x.S⟩ : CeR).sc, rfl, rfl⟩), H119.pick [0, 1, 2, 3, 4, 5] (by decide)⟩
end Go.Proofs.YtoaifondpohniaaGreat
