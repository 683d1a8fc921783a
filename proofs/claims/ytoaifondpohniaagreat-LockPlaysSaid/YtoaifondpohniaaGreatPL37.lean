/- WHAT IS PROVED: contracts and plain laws of TabG, LtO. Conditions: stated with each. -/
import Derived.Test.YtoaifondpohniaaGreatPL04
import Derived.Test.YtoaifondpohniaaGreatPL17
import Derived.Test.YtoaifondpohniaaGreatPL22
import Derived.Test.YtoaifondpohniaaGreatPL36
set_option maxHeartbeats 4000000
set_option maxRecDepth 100000
namespace Go.Proofs.YtoaifondpohniaaGreat
open Go.RowKit
theorem Z99 (w : World) (t : Nat) (F Cn rp : Int) (la : Option Addr) (lc : Nat) (L : List CeR) (ht : (Z0 t 45 [.int .i64 F, .int .i64 Cn, .int .i64 rp, .slice la L.length lc]).ok w) (hrow : (Zk 53 38 (.slice la L.length lc) L.length (L.flatMap Z03)).ok w) (hlL : L.length ≤ 64) (a b : Int) :
  Calls Tryz.prog 43 #[(.pointer (some ⟨t, 0, none⟩)), (.agg ⟨([(.int .i64 (a)), (.int .i64 (b))] : List Value)⟩)] w fun e w' => e = .returned (.tuple #[.agg ⟨Z03 ((ZP L a b).getD ce0)⟩, .bool (ZP L a b).isSome]) ∧ Upd [] w w' := by
 have H := Sat.start0 w
 have hlL0 := hlL
 refine Zh Tryz.func43 rfl 35 rfl (Nat.le_of_ble_eq_true rfl) ?_
 refine Zd ?_
 refine Zq ?_
 refine Z07 (Z1 rfl) (fun K1 hK1 => ?_)
 refine Z34 (vs := ([(.int .i64 (a)), (.int .i64 (b))] : List Value)) rfl H rfl rfl ?_
 intro b2 w3 (H4 : Sat w [Z7 w (fun _ => False), Z0 b2 24 ([(.int .i64 (a)), (.int .i64 (b))] : List Value)] w3)
 refine hK1 _ _ ?_
 clear hK1 K1
 refine Z07 (Z1 rfl) (fun K5 hK5 => ?_)
 refine Z2q (zs := (([(.int .i64 (0)), (.int .i64 (0))] : List Value) ++ hc Z04 ++ ([(.int .i64 (0)), (.int .i64 (0)), (.int .i64 (0)), (.slice none 0 0)] : List Value))) (z := (.agg ⟨(([(.int .i64 (0)), (.int .i64 (0))] : List Value) ++ hc Z04 ++ ([(.int .i64 (0)), (.int .i64 (0)), (.int .i64 (0)), (.slice none 0 0)] : List Value))⟩)) rfl H4 (by kernel_rfl) (by kernel_rfl) ?_
 intro b6 w7 (H8 : Sat w [Z7 w (fun _ => False), Z0 b2 24 ([(.int .i64 (a)), (.int .i64 (b))] : List Value), Z0 b6 53 (([(.int .i64 (0)), (.int .i64 (0))] : List Value) ++ hc Z04 ++ ([(.int .i64 (0)), (.int .i64 (0)), (.int .i64 (0)), (.slice none 0 0)] : List Value))] w7)
 refine hK5 _ _ ?_
 clear hK5 K5
 refine Z2 (Z1 rfl) (d := 5) (v := (.bool false)) rfl (by kernel_rfl) ?_
 refine Zn ?_
 refine Z4 ?_
 refine Zd ?_
 refine Zd ?_
 refine Zq ?_
 refine Z2 (Z1 rfl) (d := 7) (v := (.pointer (some ⟨t, 0, none⟩))) rfl (by kernel_rfl) ?_
 refine Z2 (Z1 rfl) (d := 8) (v := (.pointer (some ⟨t, 0, none⟩))) rfl (by kernel_rfl) ?_
 refine Z2 (Z1 rfl) (d := 9) (v := (.pointer (some ⟨t, 3, none⟩))) rfl (by kernel_rfl) ?_
 refine Z2 (Z1 rfl) (d := 10) (v := (.slice la L.length lc)) rfl (Z8 rfl (by kernel_rfl) (H8.roCell 0 rfl ht (fun h => h) rfl)) ?_
 refine Z2 (Z1 rfl) (d := 11) (v := (.int .i64 ((L.length : Int)))) rfl (by kernel_rfl) ?_
 refine Z2 (Z1 rfl) (d := 12) (v := (.int .i64 (0))) rfl (by kernel_rfl) ?_
 refine Zn ?_
 refine Z4 ?_
 refine ZM ?_
 refine Z0b [5, 6, 12, 13, 14, 15, 16, 17, 18, 19, 20, 21, 22, 23, 24, 25, 26, 27, 28, 29, 30, 31, 32, 33] (fun F_ W_ m_ => ∃ (i : Nat), F_ 12 = (.int .i64 ((i : Int))) ∧ (i ≤ L.length) ∧ (∀ j, j < i → ∀ y, L[j]? = some y → ¬ (y.x.cl = a ∧ y.x.seq = b)) ∧ Sat w [Z7 w (fun _ => False), Z0 b2 24 ([(.int .i64 (a)), (.int .i64 (b))] : List Value), Z0 b6 53 (([(.int .i64 (0)), (.int .i64 (0))] : List Value) ++ hc Z04 ++ ([(.int .i64 (0)), (.int .i64 (0)), (.int .i64 (0)), (.slice none 0 0)] : List Value))] W_ ∧ m_ = L.length - i) _ ⟨0, (show ((.int .i64 (0)) : Value) = _ by first | rfl | go_num), (Nat.zero_le _), (fun _ h => absurd h (Nat.not_lt_zero _)), H8, rfl⟩ ?_
 rintro g9 w10 _ ⟨i, v12, hi, hno, H11, rfl⟩
 refine Zl 12 _ v12 ?_
 refine Zd ?_
 refine Zq ?_
 refine Z2 (Z1 rfl) (d := 13) (v := (.bool (decide ((i : Int) < (L.length : Int))))) rfl (by kernel_rfl) ?_
 refine Zn ?_
 refine Z4 ?_
 refine Zd ?_
 refine (Zr (decide ((i : Int) < (L.length : Int)))).elim (fun b14 => ?_) (fun b14 => ?_)
 ·have g15 := of_decide_eq_true b14
  refine Zl 13 (.bool true) (congrArg Value.bool b14) ?_
  have g16 := of_decide_eq_true b14
  refine Z0S rfl ?_
  refine ZW ?_
  refine Z4 ?_
  refine Zd ?_
  refine ZM ?_
  refine Zd ?_
  refine Zq ?_
  refine Z2 (Z1 rfl) (d := 14) (v := (.int .i64 ((i : Int)))) rfl (by kernel_rfl) ?_
  refine Z2 (Z1 rfl) (d := 6) (v := (.int .i64 ((i : Int)))) rfl (by kernel_rfl) ?_
  refine Zn ?_
  refine Z4 ?_
  refine Zd ?_
  refine Z5O H11 (by kernel_rfl) (by kernel_rfl) ?_
  refine Z0v (Z1 rfl) (d := 15) (v := (.pointer (some ⟨t, 0, none⟩))) rfl (fun _ H' => (by kernel_rfl)) ?_
  refine Z0v (Z1 rfl) (d := 16) (v := (.pointer (some ⟨t, 0, none⟩))) rfl (fun _ H' => (by kernel_rfl)) ?_
  refine Z0v (Z1 rfl) (d := 17) (v := (.pointer (some ⟨t, 3, none⟩))) rfl (fun _ H' => (by kernel_rfl)) ?_
  refine Z0v (Z1 rfl) (d := 18) (v := (.slice la L.length lc)) rfl (fun _ H' => (Z8 rfl (by kernel_rfl) (H'.roCell 0 rfl ht (fun h => h) rfl))) ?_
  refine Z0v (Z1 rfl) (d := 19) (v := (.int .i64 ((i : Int)))) rfl (fun _ H' => (by kernel_rfl)) ?_
  obtain ⟨g17, c18, e19⟩ := Z1D hrow (by omega)
  obtain ⟨x20, h21⟩ := Z3E (show i < L.length by omega)
  refine Z0v (Z1 rfl) (d := 20) (v := (.pointer (some ⟨g17, 0 + ((i : Int)).toNat * 38, none⟩))) rfl (fun _ H' => (Z0r (E := 53) (by kernel_rfl) (by kernel_rfl) (Nat.le_of_ble_eq_true rfl) rfl e19 rfl (by omega) (by omega))) ?_
  refine Z0v (Z1 rfl) (d := 21) (v := (.pointer (some ⟨g17, 0 + ((i : Int)).toNat * 38, none⟩))) rfl (fun _ H' => (by kernel_rfl)) ?_
  refine Z0v (Z1 rfl) (d := 22) (v := (.pointer (some ⟨g17, 0 + ((i : Int)).toNat * 38, none⟩))) rfl (fun _ H' => (by kernel_rfl)) ?_
  refine Z0v (Z1 rfl) (d := 23) (v := (.agg ⟨([(.int .i64 (x20.x.cl)), (.int .i64 (x20.x.seq))] : List Value)⟩)) rfl (fun _ H' => (Z0k (vs := ([(.int .i64 (x20.x.cl)), (.int .i64 (x20.x.seq))] : List Value)) rfl (by kernel_rfl) (by kernel_rfl) (Nat.le_of_ble_eq_true (by kernel_rfl)) (Z2u (H'.roCk 0 rfl hrow (fun _ _ h => h)) e19 Z0l h21 0 (show 0 + ((i : Int)).toNat * 38 = i * 38 + 0 by omega) (by kernel_rfl) (by kernel_rfl)))) ?_
  refine Z0v (Z1 rfl) (d := 24) (v := (.agg ⟨([(.int .i64 (a)), (.int .i64 (b))] : List Value)⟩)) rfl (fun _ H' => (Zi (vs := ([(.int .i64 (a)), (.int .i64 (b))] : List Value)) rfl (by kernel_rfl) (by kernel_rfl) (by exact Nat.le_of_ble_eq_true (by kernel_rfl)) (H'.at 1 rfl) (by kernel_rfl))) ?_
  refine Z0v (Z1 rfl) (d := 25) (v := (.bool (decide (x20.x.cl = a ∧ x20.x.seq = b)))) rfl (fun _ H' => (Z8O x20.x.cl x20.x.seq a b rfl rfl)) ?_
  refine Z1a ?_
  intro w22 H23
  refine Z4 ?_
  refine (Zr (decide (x20.x.cl = a ∧ x20.x.seq = b))).elim (fun b24 => ?_) (fun b24 => ?_)
  ·refine Zl 25 (.bool true) (congrArg Value.bool b24) ?_
   refine Z0S rfl ?_
   refine Zd ?_
   refine Zq ?_
   refine Z2 (Z1 rfl) (d := 26) (v := (.pointer (some ⟨t, 0, none⟩))) rfl (by kernel_rfl) ?_
   refine Z2 (Z1 rfl) (d := 27) (v := (.pointer (some ⟨t, 0, none⟩))) rfl (by kernel_rfl) ?_
   refine Z2 (Z1 rfl) (d := 28) (v := (.pointer (some ⟨t, 3, none⟩))) rfl (by kernel_rfl) ?_
   refine Z2 (Z1 rfl) (d := 29) (v := (.slice la L.length lc)) rfl (Z8 rfl (by kernel_rfl) (H23.roCell 0 rfl ht (fun h => h) rfl)) ?_
   refine Z2 (Z1 rfl) (d := 30) (v := (.int .i64 ((i : Int)))) rfl (by kernel_rfl) ?_
   refine Z2 (Z1 rfl) (d := 31) (v := (.pointer (some ⟨g17, 0 + ((i : Int)).toNat * 38, none⟩))) rfl (Z0r (E := 53) (by kernel_rfl) (by kernel_rfl) (Nat.le_of_ble_eq_true rfl) rfl e19 rfl (by omega) (by omega)) ?_
   refine Z2 (Z1 rfl) (d := 32) (v := (.agg ⟨(([(.int .i64 (x20.x.cl)), (.int .i64 (x20.x.seq))] : List Value) ++ hc x20.x.h ++ ([(.int .i64 (x20.x.len)), (.int .i64 (x20.x.sb)), (.int .i64 (x20.x.sm)), (.slice x20.sa x20.S.length x20.sc)] : List Value))⟩)) rfl (Z0k (vs := (([(.int .i64 (x20.x.cl)), (.int .i64 (x20.x.seq))] : List Value) ++ hc x20.x.h ++ ([(.int .i64 (x20.x.len)), (.int .i64 (x20.x.sb)), (.int .i64 (x20.x.sm)), (.slice x20.sa x20.S.length x20.sc)] : List Value))) rfl (by kernel_rfl) (by kernel_rfl) (Nat.le_of_ble_eq_true (by kernel_rfl)) (Z2u (H23.roCk 0 rfl hrow (fun _ _ h => h)) e19 Z0l h21 0 (show 0 + ((i : Int)).toNat * 38 = i * 38 + 0 by omega) (by kernel_rfl) (by kernel_rfl))) ?_
   refine Z07 (Z1 rfl) (fun K25 hK25 => ?_)
   refine Z1U (vs := (([(.int .i64 (x20.x.cl)), (.int .i64 (x20.x.seq))] : List Value) ++ hc x20.x.h ++ ([(.int .i64 (x20.x.len)), (.int .i64 (x20.x.sb)), (.int .i64 (x20.x.sm)), (.slice x20.sa x20.S.length x20.sc)] : List Value))) (cs' := (([(.int .i64 (x20.x.cl)), (.int .i64 (x20.x.seq))] : List Value) ++ hc x20.x.h ++ ([(.int .i64 (x20.x.len)), (.int .i64 (x20.x.sb)), (.int .i64 (x20.x.sm)), (.slice x20.sa x20.S.length x20.sc)] : List Value))) rfl H23 2 rfl rfl rfl rfl (by kernel_rfl) (Nat.le_of_ble_eq_true (by kernel_rfl)) (Nat.le_of_ble_eq_true (by kernel_rfl)) (by kernel_rfl) (by kernel_rfl) ?_
   intro w26 (H27 : Sat w [Z7 w (fun _ => False), Z0 b2 24 ([(.int .i64 (a)), (.int .i64 (b))] : List Value), Z0 b6 53 (([(.int .i64 (x20.x.cl)), (.int .i64 (x20.x.seq))] : List Value) ++ hc x20.x.h ++ ([(.int .i64 (x20.x.len)), (.int .i64 (x20.x.sb)), (.int .i64 (x20.x.sm)), (.slice x20.sa x20.S.length x20.sc)] : List Value))] w26)
   refine hK25 _ _ ?_
   clear hK25 K25
   refine Z2 (Z1 rfl) (d := 5) (v := (.bool true)) rfl (by kernel_rfl) ?_
   refine Zn ?_
   refine Z4 ?_
   refine ZI ?_
   refine Z0e ?_
   refine ZG ?_
   refine Z10 ?_
   refine Z0e ?_
   refine ZG ?_
   refine Z4r rfl (ZZ (vs := (([(.int .i64 (x20.x.cl)), (.int .i64 (x20.x.seq))] : List Value) ++ hc x20.x.h ++ ([(.int .i64 (x20.x.len)), (.int .i64 (x20.x.sb)), (.int .i64 (x20.x.sm)), (.slice x20.sa x20.S.length x20.sc)] : List Value))) rfl (by kernel_rfl) (by kernel_rfl) (by exact Nat.le_of_ble_eq_true (by kernel_rfl)) (H27.at 2 rfl) (by kernel_rfl)) (ZT (v := (.bool true)) rfl) ?_
   exact ⟨by rw [Zbt hno h21 b24]; rfl, H27.upd 0 rfl [] (fun _ h => h.elim)⟩
  ·refine Zl 25 (.bool false) (congrArg Value.bool b24) ?_
   refine Z1g rfl ?_
   refine ZW ?_
   refine Zw ?_
   refine Z4 ?_
   refine Zq ?_
   refine Z2 (Z1 rfl) (d := 33) (v := (.int .i64 ((i : Int) + 1))) rfl (Z0n (z := (i : Int) + 1) (by kernel_rfl) (IntWalk.i64_in _ (by omega))) ?_
   refine Z2 (Z1 rfl) (d := 12) (v := (.int .i64 ((i : Int) + 1))) rfl (by kernel_rfl) ?_
   refine Zn ?_
   refine ZF ?_ _ ⟨(i + 1), (show ((.int .i64 ((i : Int) + 1)) : Value) = _ by first | rfl | go_num), (by omega), (Zag hno h21 b24), H23, rfl⟩ (by omega)
   exact (Z5 rfl (Z5 rfl (Z5 rfl (Z5 rfl (Z5 rfl (Z5 rfl (Z5 rfl (Z5 rfl (Z5 rfl (Z5 rfl (Z5 rfl (Z5 rfl (Z5 rfl (Z5 rfl (Z5 rfl (Z5 rfl (Z5 rfl (Z5 rfl (Z5 rfl (Z29))))))))))))))))))))
 ·have g29 := of_decide_eq_false b14
  refine Zl 13 (.bool false) (congrArg Value.bool b14) ?_
  have g30 := of_decide_eq_false b14
  refine Z1g rfl ?_
  refine Z4c ?_
  refine Z1T ?_
  refine Z1P ?_
  refine Z2Y ?_
  refine Z4 ?_
  refine Zd ?_
  refine Zq ?_
  refine Z2 (Z1 rfl) (d := 34) (v := (.agg ⟨(([(.int .i64 (0)), (.int .i64 (0))] : List Value) ++ hc Z04 ++ ([(.int .i64 (0)), (.int .i64 (0)), (.int .i64 (0)), (.slice none 0 0)] : List Value))⟩)) rfl (by kernel_rfl) ?_
  refine Z07 (Z1 rfl) (fun K31 hK31 => ?_)
  refine Z1U (vs := (([(.int .i64 (0)), (.int .i64 (0))] : List Value) ++ hc Z04 ++ ([(.int .i64 (0)), (.int .i64 (0)), (.int .i64 (0)), (.slice none 0 0)] : List Value))) (cs' := (([(.int .i64 (0)), (.int .i64 (0))] : List Value) ++ hc Z04 ++ ([(.int .i64 (0)), (.int .i64 (0)), (.int .i64 (0)), (.slice none 0 0)] : List Value))) rfl H11 2 rfl rfl rfl rfl (by kernel_rfl) (Nat.le_of_ble_eq_true (by kernel_rfl)) (Nat.le_of_ble_eq_true (by kernel_rfl)) (by kernel_rfl) (by kernel_rfl) ?_
  intro w32 (H33 : Sat w [Z7 w (fun _ => False), Z0 b2 24 ([(.int .i64 (a)), (.int .i64 (b))] : List Value), Z0 b6 53 (([(.int .i64 (0)), (.int .i64 (0))] : List Value) ++ hc Z04 ++ ([(.int .i64 (0)), (.int .i64 (0)), (.int .i64 (0)), (.slice none 0 0)] : List Value))] w32)
  refine hK31 _ _ ?_
  clear hK31 K31
  refine Z2 (Z1 rfl) (d := 5) (v := (.bool false)) rfl (by kernel_rfl) ?_
  refine Zn ?_
  refine Z4 ?_
  refine ZI ?_
  refine Z4r rfl (ZZ (vs := (([(.int .i64 (0)), (.int .i64 (0))] : List Value) ++ hc Z04 ++ ([(.int .i64 (0)), (.int .i64 (0)), (.int .i64 (0)), (.slice none 0 0)] : List Value))) rfl (by kernel_rfl) (by kernel_rfl) (by exact Nat.le_of_ble_eq_true (by kernel_rfl)) (H33.at 2 rfl) (by kernel_rfl)) (ZT (v := (.bool false)) rfl) ?_
  exact ⟨by rw [Zaf hno (show L.length ≤ i by omega)]; kernel_rfl, H33.upd 0 rfl [] (fun _ h => h.elim)⟩
abbrev Zau (p0 : Int) (p1 : Int) (p2 : Int) (p3 : Option Addr) (p4 : Nat) (p5 : Nat) : List Value := ([(.int .i64 p0), (.int .i64 p1), (.int .i64 p2), (.slice p3 p4 p5)] : List Value)
abbrev Z6s (p0 : Option Addr) (p1 : List CeR) (p2 : Nat) : Ck := Zk 53 38 (.slice p0 p1.length p2) p1.length (p1.flatMap Z03)
abbrev Z7A (p0 : CeR) : List Value := ([(.int .i64 p0.x.cl), (.int .i64 p0.x.seq)] : List Value) ++ hc p0.x.h ++ ([(.int .i64 p0.x.len), (.int .i64 p0.x.sb), (.int .i64 p0.x.sm), (.slice p0.sa p0.S.length p0.sc)] : List Value)
theorem Zaq {NL : List NmD} {n : NmD} {k : Nat} {b : Bool} (h : b = decide (n ∈ NL.take k)) (hk : k < NL.length) : (b || decide ((NL.getD k nm0).cl = n.cl ∧ (NL.getD k nm0).sq = n.sq)) = decide (n ∈ NL.take (k + 1)) := by
 rw [h, List.take_add_one, List.getD_eq_getElem?_getD, List.getElem?_eq_getElem hk, Bool.eq_iff_iff]
 simp only [Option.getD_some, Option.toList_some, Bool.or_eq_true, decide_eq_true_eq, List.mem_append, List.mem_singleton]
 constructor
 ·rintro (h | ⟨h1, h2⟩)
  ·exact .inl h
  exact .inr (by cases n; cases hq : NL[k]; simp_all)
 rintro (h | h)
 ·exact .inl h
 exact .inr (by rw [h]; exact ⟨rfl, rfl⟩)
def Z6b (NL : List NmD) (c : CeR) : Bool := decide (nmX c ∉ NL)
theorem fl_yes {L D : List CeR} {NL : List NmD} {i : Nat} {x : CeR} (h : D = (L.take i).filter (Z6b NL)) (hx : L[i]? = some x) (hp : nmX x ∉ NL) : D ++ [x] = (L.take (i + 1)).filter (Z6b NL) := by
 rw [List.take_add_one, hx, Option.toList_some, List.filter_append, ← h, List.filter_cons, show Z6b NL x = true from decide_eq_true hp]; rfl
theorem fl_no {L D : List CeR} {NL : List NmD} {i : Nat} {x : CeR} (h : D = (L.take i).filter (Z6b NL)) (hx : L[i]? = some x) (hp : nmX x ∈ NL) : D = (L.take (i + 1)).filter (Z6b NL) := by
 rw [List.take_add_one, hx, Option.toList_some, List.filter_append, ← h, List.filter_cons, show Z6b NL x = false from decide_eq_false (fun q => q hp)]; simp
theorem Z8u (w : World) (t : Nat) (F Cn rp : Int) (la : Option Addr) (lc : Nat) (L : List CeR) (hA : (ZL [Z0 t 45 [.int .i64 F, .int .i64 Cn, .int .i64 rp, .slice la (L).length lc], Zk 53 38 (.slice la (L).length lc) (L).length ((L).flatMap Z03)]).ok w) (hlL : L.length ≤ 64) (na : Option Addr) (nc : Nat) (NL : List NmD) (hN : ListAt Z1c 2 w (.slice na NL.length nc) NL) (hva : 0 < NL.length → ∀ ad, na = some ad → ¬ (ZL [Z0 t 45 [.int .i64 F, .int .i64 Cn, .int .i64 rp, .slice la (L).length lc], Zk 53 38 (.slice la (L).length lc) (L).length ((L).flatMap Z03)]).fp ad.block) :
  Calls Tryz.prog 67 #[(.pointer (some ⟨t, 0, none⟩)), (.slice na NL.length nc)] w fun e w' => ∃ (oa : Option Addr) (oc : Nat), e = .returned (.int .i64 ((L.length : Int) - ((L.filter (Z6b NL)).length : Int))) ∧ Sat w [Z0 t 45 [.int .i64 F, .int .i64 Cn, .int .i64 rp, .slice oa (L.filter (Z6b NL)).length oc], Zk 53 38 (.slice oa (L.filter (Z6b NL)).length oc) (L.filter (Z6b NL)).length ((L.filter (Z6b NL)).flatMap Z03), Z7 w (ZL [Z0 t 45 [.int .i64 F, .int .i64 Cn, .int .i64 rp, .slice la (L).length lc], Zk 53 38 (.slice la (L).length lc) (L).length ((L).flatMap Z03)]).fp] w' := by
 have H := Sat.start0 w
 have H := Sat.start _ hA
 have hlN := SliceOf.le hN
 unfold maxLen at hlN
 refine Zh Tryz.func67 rfl 67 rfl (Nat.le_of_ble_eq_true rfl) ?_
 apply zsl
 refine wv 4 (.int .i64 (0)) ?_
 apply Z2Q
 refine wv 5 (.slice none 0 0) ?_
 apply znt
 apply Zd
 apply zsl
 refine wv 10 (pt t 0) ?_
 refine wv 11 (pt t 0) ?_
 refine wv 12 (pt t 3) ?_
 refine zw1 13 (.slice la L.length lc) (H.cell 0 rfl rfl) ?_
 refine wv 14 (.int .i64 ((L.length : Int))) ?_
 refine wv 15 (.int .i64 (0)) ?_
 apply znt
 apply ZM
 have H1 := H.addNil 53 38
 refine Z0b ([5, 6, 7, 8] ++ List.range' 15 39) (fun F_ W_ m_ => ∃ (i : Nat) (oa : Option Addr) (oc : Nat) (D : List CeR), F_ 15 = (.int .i64 ((i : Int))) ∧ F_ 5 = (.slice oa D.length oc) ∧ (i ≤ L.length) ∧ (D = (L.take i).filter (Z6b NL)) ∧ Sat w [Z0 t 45 (Zau F Cn rp la L.length lc), (Z6s la L lc), Z7 w (ZL [Z0 t 45 [.int .i64 F, .int .i64 Cn, .int .i64 rp, .slice la (L).length lc], (Z6s la L lc)]).fp, (Z6s oa D oc)] W_ ∧ m_ = L.length - i) _ ⟨0, none, 0, [], (show ((.int .i64 (0)) : Value) = _ by first | rfl | go_num), (by first | rfl | go_num), (Nat.zero_le _), rfl, H1, rfl⟩ ?_
 rintro g2 w3 _ ⟨i, oa, oc, D, v5, v6, hi, hD, H4, rfl⟩
 refine Zl 15 _ v5 ?_
 refine Zl 5 _ v6 ?_
 have hDl : D.length ≤ 64 := by rw [hD]; have q := List.length_filter_le (Z6b NL) (L.take i); rw [List.length_take] at q; omega
 apply zsl
 refine wv 16 (.bool (decide ((i : Int) < (L.length : Int)))) ?_
 apply znt
 apply Zd
 refine (Zr (decide ((i : Int) < (L.length : Int)))).elim (fun b8 => ?_) (fun b8 => ?_)
 ·have g9 := of_decide_eq_true b8
  refine Z1V _ b8 ?_
  apply ZW
  apply ztn
  apply Zd
  apply ZM
  apply zsl
  refine wv 17 (.int .i64 ((i : Int))) ?_
  refine wv 6 (.int .i64 ((i : Int))) ?_
  apply Z2Q
  refine wv 7 (.bool false) ?_
  apply znt
  apply Zd
  apply zsl
  refine wv 18 (.slice na NL.length nc) ?_
  refine wv 19 (.int .i64 ((NL.length : Int))) ?_
  refine wv 20 (.int .i64 (0)) ?_
  apply znt
  apply ZM
  obtain ⟨g11, c12, e13⟩ := Z1D (H4.at 1 rfl) (by omega)
  obtain ⟨x14, h15⟩ := Z3E (show i < L.length by omega)
  refine Z0b ([7, 8] ++ List.range' 20 21) (fun F_ W_ m_ => ∃ (k : Nat) (inn : Bool), F_ 20 = (.int .i64 ((k : Int))) ∧ F_ 7 = (.bool (inn)) ∧ (k ≤ NL.length) ∧ (inn = decide (nmX x14 ∈ NL.take k)) ∧ Sat w [Z0 t 45 (Zau F Cn rp la L.length lc), (Z6s la L lc), Z7 w (ZL [Z0 t 45 [.int .i64 F, .int .i64 Cn, .int .i64 rp, .slice la (L).length lc], (Z6s la L lc)]).fp, (Z6s oa D oc)] W_ ∧ m_ = NL.length - k) _ ⟨0, false, (show ((.int .i64 (0)) : Value) = _ by first | rfl | go_num), (by first | rfl | go_num), (Nat.zero_le _), (by simp), H4, rfl⟩ ?_
  rintro g16 w17 _ ⟨k, inn, v19, v20, hk, hin, H18, rfl⟩
  refine Zl 20 _ v19 ?_
  refine Zl 7 _ v20 ?_
  apply zsl
  refine wv 21 (.bool (decide ((k : Int) < (NL.length : Int)))) ?_
  apply znt
  apply Zd
  refine (Zr (decide ((k : Int) < (NL.length : Int)))).elim (fun b22 => ?_) (fun b22 => ?_)
  ·have g23 := of_decide_eq_true b22
   refine Z1V _ b22 ?_
   apply ZW
   apply ztn
   apply Zd
   apply ZM
   apply zsl
   refine wv 22 (.int .i64 ((k : Int))) ?_
   refine wv 8 (.int .i64 ((k : Int))) ?_
   apply znt
   refine zqs H18 ?_
   refine qv 23 (.bool (inn)) ?_
   refine qv 24 (.bool (inn)) ?_
   refine (Zr (inn)).elim (fun b25 => ?_) (fun b25 => ?_)
   ·refine Z0P 24 (.bool true) (congrArg Value.bool b25) ?_
    iterate 14 refine qn 1 24 false ?_
    refine qv 39 (.bool true) ?_
    refine qv 7 (.bool true) ?_
    refine Z1a ?_
    intro w26 H27
    apply Zw
    apply ztn
    apply Zq
    refine zwi 40 ((k : Int) + 1) ?_
    refine wv 20 (.int .i64 ((k : Int) + 1)) ?_
    apply Zn
    refine ZF ?_ _ ⟨(k + 1), (inn || decide ((NL.getD k nm0).cl = x14.x.cl ∧ (NL.getD k nm0).sq = x14.x.seq)), rfl, (show ((.bool true) : Value) = _ by rw [b25]; rfl), (by omega), (Zaq hin (by omega)), H27, rfl⟩ (by omega)
    exact zs
   refine Z0P 24 (.bool false) (congrArg Value.bool b25) ?_
   refine qy 1 24 false 25 (.slice na NL.length nc) ?_
   refine qy 1 24 false 26 (.int .i64 ((k : Int))) ?_
   obtain ⟨g28, o29, c30, e31, R32⟩ := SliceOf.atD hN nm0 (show k < NL.length by omega)
   refine qy 1 24 false 27 (.pointer (some ⟨g28, o29 + ((k : Int)).toNat * 2, none⟩)) ?_ (hr := fun _ H' => (ZV (E := 24) (by kernel_rfl) (by kernel_rfl) (Nat.le_of_ble_eq_true rfl) rfl e31 rfl (by omega) (by omega)))
   refine qy 1 24 false 28 (.agg ⟨([(.int .i64 ((NL.getD k nm0).cl)), (.int .i64 ((NL.getD k nm0).sq))] : List Value)⟩) ?_ (hr := fun _ H' => (Z0k (vs := ([(.int .i64 ((NL.getD k nm0).cl)), (.int .i64 ((NL.getD k nm0).sq))] : List Value)) rfl (by kernel_rfl) (by kernel_rfl) (Nat.le_of_ble_eq_true (by kernel_rfl)) (H'.runR 2 rfl (Z16 R32 0 (by kernel_rfl) (show o29 + ((k : Int)).toNat * 2 = o29 + k * 2 + 0 by omega)) (by have hq := hva (by omega) _ (Z3m e31); exact hq))))
   refine qy 1 24 false 29 (pt t 0) ?_
   refine qy 1 24 false 30 (pt t 0) ?_
   refine qy 1 24 false 31 (pt t 3) ?_
   refine qy 1 24 false 32 (.slice la L.length lc) ?_ (hr := fun _ H' => (Z8 rfl (by kernel_rfl) (H'.cell 0 rfl rfl)))
   refine qy 1 24 false 33 (.int .i64 ((i : Int))) ?_
   refine qy 1 24 false 34 (.pointer (some ⟨g11, 0 + ((i : Int)).toNat * 38, none⟩)) ?_ (hr := fun _ H' => (Z0r (E := 53) (by kernel_rfl) (by kernel_rfl) (Nat.le_of_ble_eq_true rfl) rfl e13 rfl (by omega) (by omega)))
   refine qy 1 24 false 35 (.pointer (some ⟨g11, 0 + ((i : Int)).toNat * 38, none⟩)) ?_
   refine qy 1 24 false 36 (.pointer (some ⟨g11, 0 + ((i : Int)).toNat * 38, none⟩)) ?_
   refine qy 1 24 false 37 (.agg ⟨([(.int .i64 (x14.x.cl)), (.int .i64 (x14.x.seq))] : List Value)⟩) ?_ (hr := fun _ H' => (Z0k (vs := ([(.int .i64 (x14.x.cl)), (.int .i64 (x14.x.seq))] : List Value)) rfl (by kernel_rfl) (by kernel_rfl) (Nat.le_of_ble_eq_true (by kernel_rfl)) (Z2u (H'.at 1 rfl) e13 Z0l h15 0 (show 0 + ((i : Int)).toNat * 38 = i * 38 + 0 by omega) (by kernel_rfl) (by kernel_rfl))))
   refine qy 1 24 false 38 (.bool (decide (((NL.getD k nm0).cl) = x14.x.cl ∧ ((NL.getD k nm0).sq) = x14.x.seq))) ?_ (hr := fun _ H' => (Z8O ((NL.getD k nm0).cl) ((NL.getD k nm0).sq) x14.x.cl x14.x.seq rfl rfl))
   refine qv 39 (.bool (decide (((NL.getD k nm0).cl) = x14.x.cl ∧ ((NL.getD k nm0).sq) = x14.x.seq))) ?_
   refine qv 7 (.bool (decide (((NL.getD k nm0).cl) = x14.x.cl ∧ ((NL.getD k nm0).sq) = x14.x.seq))) ?_
   refine Z1a ?_
   intro w33 H34
   apply Zw
   apply ztn
   apply Zq
   refine zwi 40 ((k : Int) + 1) ?_
   refine wv 20 (.int .i64 ((k : Int) + 1)) ?_
   apply Zn
   refine ZF ?_ _ ⟨(k + 1), (inn || decide ((NL.getD k nm0).cl = x14.x.cl ∧ (NL.getD k nm0).sq = x14.x.seq)), rfl, (show ((.bool (decide (((NL.getD k nm0).cl) = x14.x.cl ∧ ((NL.getD k nm0).sq) = x14.x.seq))) : Value) = _ by rw [b25]; rfl), (by omega), (Zaq hin (by omega)), H34, rfl⟩ (by omega)
   exact zs
  have g35 := of_decide_eq_false b22
  refine Z1w _ b22 ?_
  apply zxb
  apply ztn
  apply zsl
  refine wv 41 (.bool (inn)) ?_
  refine wv 42 (.bool (!(inn))) ?_
  apply znt
  refine (Zr (!(inn))).elim (fun b37 => ?_) (fun b37 => ?_)
  ·have g38 := ZU b37
   refine Z1V _ b37 ?_
   have hni : nmX x14 ∉ NL := by have q := b37; simp only [Bool.not_eq_true'] at q; rw [q, List.take_of_length_le (by omega)] at hin; exact of_decide_eq_false hin.symm
   apply Zq
   refine wv 43 (.slice oa D.length oc) ?_
   refine wv 44 (pt t 0) ?_
   refine wv 45 (pt t 0) ?_
   refine wv 46 (pt t 3) ?_
   refine zw1 47 (.slice la L.length lc) (H18.cell 0 rfl rfl) ?_
   refine wv 48 (.int .i64 ((i : Int))) ?_
   refine wv 49 (.pointer (some ⟨g11, 0 + ((i : Int)).toNat * 38, none⟩)) ?_ (hr := Z0r (E := 53) (by kernel_rfl) (by kernel_rfl) (Nat.le_of_ble_eq_true rfl) rfl e13 rfl (by omega) (by omega))
   refine wv 50 (.agg ⟨(Z7A x14)⟩) ?_ (hr := Z0k (vs := (Z7A x14)) rfl (by kernel_rfl) (by kernel_rfl) (Nat.le_of_ble_eq_true (by kernel_rfl)) (Z2u (H18.at 1 rfl) e13 Z0l h15 0 (show 0 + ((i : Int)).toNat * 38 = i * 38 + 0 by omega) (by kernel_rfl) (by kernel_rfl)))
   refine zwd fun Kq kq => ?_
   refine Z45 53 38 96 (.agg ⟨(([(.int .i64 (0)), (.int .i64 (0))] : List Value) ++ hc Z04 ++ ([(.int .i64 (0)), (.int .i64 (0)), (.int .i64 (0)), (.slice none 0 0)] : List Value))⟩) [(0, (.agg ⟨(Z7A x14)⟩))] (Z7A x14) H18 ?_
   intro b41 w42 H43
   have H44 := H43.ct 4 rfl (Zk 53 38 (.slice (some ⟨b41, 0, none⟩) 1 1) 1 ([x14].flatMap Z03)) (by rw [(show ((Z7A x14) : List Value) = [x14].flatMap Z03 by kernel_rfl)])
   refine kq _ _ ?_
   clear kq Kq
   refine zwd fun Kq kq => ?_
   refine Z11 (T := 32) (e := 53) (size := 38) (bytes := 96) rfl H44 (by kernel_rfl) 3 4 rfl rfl rfl rfl (Z0Q Z03 Z2E [x14]) (by omega) (by omega) ?_
   intro v46 w47 H48
   have H51 := H48.ct 3 rfl (Zk 53 38 v46 ((D ++ [x14]).length) ((D ++ [x14]).flatMap Z03)) ja
   obtain ⟨a49, c50, rfl⟩ := Z6 (H51.at 3 rfl)
   refine kq _ _ ?_
   clear kq Kq
   refine wv 5 (.slice a49 ((D ++ [x14]).length) c50) ?_
   apply Zn
   apply Zw
   apply ztn
   apply Zq
   refine zwi 53 ((i : Int) + 1) ?_
   refine wv 15 (.int .i64 ((i : Int) + 1)) ?_
   apply Zn
   have H52 := H51.pk [0, 1, 2, 3]
   refine ZF ?_ _ ⟨(i + 1), a49, c50, (D ++ [x14]), rfl, rfl, (by omega), (fl_yes hD h15 hni), H52, rfl⟩ (by omega)
   exact zs
  have g53 := Zj b37
  refine Z1w _ b37 ?_
  apply ZW
  apply Zw
  apply ztn
  have hyi : nmX x14 ∈ NL := by have q := b37; simp only [Bool.not_eq_false'] at q; rw [q, List.take_of_length_le (by omega)] at hin; exact of_decide_eq_true hin.symm
  apply Zq
  refine zwi 53 ((i : Int) + 1) ?_
  refine wv 15 (.int .i64 ((i : Int) + 1)) ?_
  apply Zn
  refine ZF ?_ _ ⟨(i + 1), oa, oc, D, rfl, rfl, (by omega), (fl_no hD h15 hyi), H18, rfl⟩ (by omega)
  exact zs
 have g55 := of_decide_eq_false b8
 refine Z1w _ b8 ?_
 apply zxb
 apply ztn
 apply Zd
 have hDf : D = L.filter (Z6b NL) := by rw [hD, List.take_of_length_le (by omega)]
 apply Zq
 refine wv 54 (pt t 0) ?_
 refine wv 55 (pt t 0) ?_
 refine wv 56 (pt t 3) ?_
 refine zw1 57 (.slice la L.length lc) (H4.cell 0 rfl rfl) ?_
 refine wv 58 (.int .i64 ((L.length : Int))) ?_
 refine wv 59 (.slice oa D.length oc) ?_
 refine wv 60 (.int .i64 ((D.length : Int))) ?_
 refine zwi 61 ((L.length : Int) - (D.length : Int)) ?_
 refine wv 9 (.int .i64 ((L.length : Int) - (D.length : Int))) ?_
 apply Z2Q
 refine wv 62 (pt t 0) ?_
 refine wv 63 (.slice oa D.length oc) ?_
 refine wv 64 (pt t 0) ?_
 refine wv 65 (pt t 3) ?_
 refine zwd fun Kq kq => ?_
 refine zds ([(.slice oa D.length oc)] : List Value) (Zau F Cn rp oa D.length oc) H4 0 ?_
 intro w58 H59
 refine kq _ _ ?_
 clear kq Kq
 apply Z2Q
 refine wv 66 (.int .i64 ((L.length : Int) - (D.length : Int))) ?_
 refine wv 4 (.int .i64 ((L.length : Int) - (D.length : Int))) ?_
 apply znt
 apply ZI
 refine ze1 (.int .i64 ((L.length : Int) - (D.length : Int))) ?_
 subst hDf
 exact ⟨oa, oc, rfl, H59.pk [0, 3, 2]⟩
end Go.Proofs.YtoaifondpohniaaGreat
