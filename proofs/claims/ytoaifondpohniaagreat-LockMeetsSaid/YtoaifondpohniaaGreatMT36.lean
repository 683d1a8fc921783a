/- WHAT IS PROVED: contracts and plain laws of CertR. Conditions: stated with each. -/
import Derived.Test.YtoaifondpohniaaGreatMT33
import Derived.Test.YtoaifondpohniaaGreatMT35
set_option maxHeartbeats 4000000
set_option maxRecDepth 100000
namespace Go.Proofs.YtoaifondpohniaaGreat
open Go.RowKit
theorem Z38 (w : World) (b mb r : Nat) (a : Option Addr) (c : Nat) (L : List Signed) (hB : (ZI (Z0A b mb r a c L)).ok w) (f cn : Int) (hf : 1 ≤ f ∧ f ≤ 5) (x : Zk) (hx : CoOk x) (from_ : Int) (hL : L.length ≤ 1000) (hn : L.Nodup) (va : Option Addr) (vc : Nat) (xs : List Int) (hxs : ListAt Z2u 1 w (.slice va xs.length vc) xs) (hbd : ∀ x ∈ xs, 0 ≤ x ∧ x ≤ 18446744073709551615) (hva : 0 < xs.length → ∀ ad, va = some ad → ¬ (ZI (Z0A b mb r a c L)).fp ad.block) :
  Calls Tryz.prog 9 #[(.agg ⟨([(.pointer (some ⟨b, 0, none⟩)), (.pointer (some ⟨r, 0, none⟩))] : List Value)⟩), (.agg ⟨([(.int .i64 (f)), (.int .i64 (cn))] : List Value)⟩), (.agg ⟨(([(.int .i64 (x.cl)), (.int .i64 (x.seq))] : List Value) ++ hc x.h ++ ([(.int .i64 (x.len)), (.int .i64 (x.sb)), (.int .i64 (x.sm))] : List Value))⟩), (.int .i64 (from_)), (.slice va xs.length vc)] w fun e w' => ∃ (ra : Option Addr) (rc : Nat) (L1 : List Signed) (da : Option Addr) (dc : Nat) (D : List Ze), e = .returned (.agg ⟨Z6d x ++ [.slice da D.length dc]⟩) ∧ (D.length : Int) = 2 * f + 1 ∧ (∀ s ∈ D, StB s) ∧ L1.Nodup ∧ L1.length ≤ L.length + 11 ∧ L <+: L1 ∧ RiseS x (Z0a from_ (f + 1)) L1 D ∧ Sat w [Z1 b 110 [.map (some mb)], ZA mb Z7 (Value.int .i64) (Zh L1), Z1 r 98 [.slice ra (L1).length rc], Zd 114 2 (.slice ra (L1).length rc) (L1).length ((L1).flatMap Z1b), Zd 101 38 (.slice da D.length dc) D.length (D.flatMap Z0o), Z5 w (ZI (Z0A b mb r a c L)).fp] w' := by
 have hwf := Z1G from_ (f + 1) (by omega)
 obtain ⟨Q, hQ⟩ : ∃ Q : Nat, (Q : Int) = 2 * f + 1 := ⟨(2 * f + 1).toNat, by omega⟩
 have H : Sat w [Z1 b 110 ([(.map (some mb))] : List Value), ZA mb Z7 (Value.int .i64) (Zh L), Z1 r 98 ([(.slice a L.length c)] : List Value), Zd 114 2 (.slice a L.length c) L.length (L.flatMap Z1b), Z5 w (ZI (Z0A b mb r a c L)).fp] w := Sat.start (Z0A b mb r a c L) hB
 refine Zr Tryz.func9 rfl 50 rfl (Nat.le_of_ble_eq_true rfl) ?_
 refine Zb ?_
 refine Zl ?_
 refine ZQ (Z0 rfl) (fun K1 hK1 => ?_)
 refine Z1F (vs := ([(.pointer (some ⟨b, 0, none⟩)), (.pointer (some ⟨r, 0, none⟩))] : List Value)) rfl H rfl rfl ?_
 intro b2 w3 (H4 : Sat w [Z1 b 110 ([(.map (some mb))] : List Value), ZA mb Z7 (Value.int .i64) (Zh L), Z1 r 98 ([(.slice a L.length c)] : List Value), Zd 114 2 (.slice a L.length c) L.length (L.flatMap Z1b), Z5 w (ZI (Z0A b mb r a c L)).fp, Z1 b2 40 ([(.pointer (some ⟨b, 0, none⟩)), (.pointer (some ⟨r, 0, none⟩))] : List Value)] w3)
 refine hK1 _ _ ?_
 clear hK1 K1
 refine ZQ (Z0 rfl) (fun K5 hK5 => ?_)
 refine Z1F (vs := ([(.int .i64 (f)), (.int .i64 (cn))] : List Value)) rfl H4 rfl rfl ?_
 intro b6 w7 (H8 : Sat w [Z1 b 110 ([(.map (some mb))] : List Value), ZA mb Z7 (Value.int .i64) (Zh L), Z1 r 98 ([(.slice a L.length c)] : List Value), Zd 114 2 (.slice a L.length c) L.length (L.flatMap Z1b), Z5 w (ZI (Z0A b mb r a c L)).fp, Z1 b2 40 ([(.pointer (some ⟨b, 0, none⟩)), (.pointer (some ⟨r, 0, none⟩))] : List Value), Z1 b6 36 ([(.int .i64 (f)), (.int .i64 (cn))] : List Value)] w7)
 refine hK5 _ _ ?_
 clear hK5 K5
 refine ZQ (Z0 rfl) (fun K9 hK9 => ?_)
 refine Z1F (vs := (([(.int .i64 (x.cl)), (.int .i64 (x.seq))] : List Value) ++ hc x.h ++ ([(.int .i64 (x.len)), (.int .i64 (x.sb)), (.int .i64 (x.sm))] : List Value))) rfl H8 rfl rfl ?_
 intro b10 w11 (H12 : Sat w [Z1 b 110 ([(.map (some mb))] : List Value), ZA mb Z7 (Value.int .i64) (Zh L), Z1 r 98 ([(.slice a L.length c)] : List Value), Zd 114 2 (.slice a L.length c) L.length (L.flatMap Z1b), Z5 w (ZI (Z0A b mb r a c L)).fp, Z1 b2 40 ([(.pointer (some ⟨b, 0, none⟩)), (.pointer (some ⟨r, 0, none⟩))] : List Value), Z1 b6 36 ([(.int .i64 (f)), (.int .i64 (cn))] : List Value), Z1 b10 50 (([(.int .i64 (x.cl)), (.int .i64 (x.seq))] : List Value) ++ hc x.h ++ ([(.int .i64 (x.len)), (.int .i64 (x.sb)), (.int .i64 (x.sm))] : List Value))] w11)
 refine hK9 _ _ ?_
 clear hK9 K9
 refine ZQ (Z0 rfl) (fun K13 hK13 => ?_)
 refine Z19 (zs := (([(.int .i64 (0)), (.int .i64 (0))] : List Value) ++ hc Zt ++ ([(.int .i64 (0)), (.int .i64 (0)), (.int .i64 (0)), (.slice none 0 0)] : List Value))) (z := (.agg ⟨(([(.int .i64 (0)), (.int .i64 (0))] : List Value) ++ hc Zt ++ ([(.int .i64 (0)), (.int .i64 (0)), (.int .i64 (0)), (.slice none 0 0)] : List Value))⟩)) rfl H12 (by kernel_rfl) (by kernel_rfl) ?_
 intro b14 w15 (H16 : Sat w [Z1 b 110 ([(.map (some mb))] : List Value), ZA mb Z7 (Value.int .i64) (Zh L), Z1 r 98 ([(.slice a L.length c)] : List Value), Zd 114 2 (.slice a L.length c) L.length (L.flatMap Z1b), Z5 w (ZI (Z0A b mb r a c L)).fp, Z1 b2 40 ([(.pointer (some ⟨b, 0, none⟩)), (.pointer (some ⟨r, 0, none⟩))] : List Value), Z1 b6 36 ([(.int .i64 (f)), (.int .i64 (cn))] : List Value), Z1 b10 50 (([(.int .i64 (x.cl)), (.int .i64 (x.seq))] : List Value) ++ hc x.h ++ ([(.int .i64 (x.len)), (.int .i64 (x.sb)), (.int .i64 (x.sm))] : List Value)), Z1 b14 53 (([(.int .i64 (0)), (.int .i64 (0))] : List Value) ++ hc Zt ++ ([(.int .i64 (0)), (.int .i64 (0)), (.int .i64 (0)), (.slice none 0 0)] : List Value))] w15)
 refine hK13 _ _ ?_
 clear hK13 K13
 refine Zi ?_
 refine Z4 ?_
 refine Zb ?_
 refine Zl ?_
 refine Z3 (Z0 rfl) (d := 14) (v := (.agg ⟨(([(.int .i64 (x.cl)), (.int .i64 (x.seq))] : List Value) ++ hc x.h ++ ([(.int .i64 (x.len)), (.int .i64 (x.sb)), (.int .i64 (x.sm))] : List Value))⟩)) rfl (Zs (vs := (([(.int .i64 (x.cl)), (.int .i64 (x.seq))] : List Value) ++ hc x.h ++ ([(.int .i64 (x.len)), (.int .i64 (x.sb)), (.int .i64 (x.sm))] : List Value))) rfl (by kernel_rfl) (by kernel_rfl) (by exact Nat.le_of_ble_eq_true (by kernel_rfl)) (H16.at 7 rfl) (by kernel_rfl)) ?_
 refine Z3 (Z0 rfl) (d := 15) (v := (.agg ⟨(([(.int .i64 (x.cl)), (.int .i64 (x.seq))] : List Value) ++ hc x.h ++ ([(.int .i64 (x.len)), (.int .i64 (x.sb)), (.int .i64 (x.sm)), (.slice none 0 0)] : List Value))⟩)) rfl (by kernel_rfl) ?_
 refine ZQ (Z0 rfl) (fun K17 hK17 => ?_)
 refine Z19 (zs := (([(.int .i64 (0)), (.int .i64 (0))] : List Value) ++ hc Zt ++ ([(.int .i64 (0)), (.int .i64 (0)), (.int .i64 (0)), (.slice none 0 0)] : List Value))) (z := (.agg ⟨(([(.int .i64 (0)), (.int .i64 (0))] : List Value) ++ hc Zt ++ ([(.int .i64 (0)), (.int .i64 (0)), (.int .i64 (0)), (.slice none 0 0)] : List Value))⟩)) rfl H16 (by kernel_rfl) (by kernel_rfl) ?_
 intro b18 w19 (H20 : Sat w [Z1 b 110 ([(.map (some mb))] : List Value), ZA mb Z7 (Value.int .i64) (Zh L), Z1 r 98 ([(.slice a L.length c)] : List Value), Zd 114 2 (.slice a L.length c) L.length (L.flatMap Z1b), Z5 w (ZI (Z0A b mb r a c L)).fp, Z1 b2 40 ([(.pointer (some ⟨b, 0, none⟩)), (.pointer (some ⟨r, 0, none⟩))] : List Value), Z1 b6 36 ([(.int .i64 (f)), (.int .i64 (cn))] : List Value), Z1 b10 50 (([(.int .i64 (x.cl)), (.int .i64 (x.seq))] : List Value) ++ hc x.h ++ ([(.int .i64 (x.len)), (.int .i64 (x.sb)), (.int .i64 (x.sm))] : List Value)), Z1 b14 53 (([(.int .i64 (0)), (.int .i64 (0))] : List Value) ++ hc Zt ++ ([(.int .i64 (0)), (.int .i64 (0)), (.int .i64 (0)), (.slice none 0 0)] : List Value)), Z1 b18 53 (([(.int .i64 (0)), (.int .i64 (0))] : List Value) ++ hc Zt ++ ([(.int .i64 (0)), (.int .i64 (0)), (.int .i64 (0)), (.slice none 0 0)] : List Value))] w19)
 refine hK17 _ _ ?_
 clear hK17 K17
 refine ZQ (Z0 rfl) (fun K21 hK21 => ?_)
 refine Z0q (vs := (([(.int .i64 (x.cl)), (.int .i64 (x.seq))] : List Value) ++ hc x.h ++ ([(.int .i64 (x.len)), (.int .i64 (x.sb)), (.int .i64 (x.sm)), (.slice none 0 0)] : List Value))) (cs' := (([(.int .i64 (x.cl)), (.int .i64 (x.seq))] : List Value) ++ hc x.h ++ ([(.int .i64 (x.len)), (.int .i64 (x.sb)), (.int .i64 (x.sm)), (.slice none 0 0)] : List Value))) rfl H20 9 rfl rfl rfl rfl (by kernel_rfl) (Nat.le_of_ble_eq_true (by kernel_rfl)) (Nat.le_of_ble_eq_true (by kernel_rfl)) (by kernel_rfl) (by kernel_rfl) ?_
 intro w22 (H23 : Sat w [Z1 b 110 ([(.map (some mb))] : List Value), ZA mb Z7 (Value.int .i64) (Zh L), Z1 r 98 ([(.slice a L.length c)] : List Value), Zd 114 2 (.slice a L.length c) L.length (L.flatMap Z1b), Z5 w (ZI (Z0A b mb r a c L)).fp, Z1 b2 40 ([(.pointer (some ⟨b, 0, none⟩)), (.pointer (some ⟨r, 0, none⟩))] : List Value), Z1 b6 36 ([(.int .i64 (f)), (.int .i64 (cn))] : List Value), Z1 b10 50 (([(.int .i64 (x.cl)), (.int .i64 (x.seq))] : List Value) ++ hc x.h ++ ([(.int .i64 (x.len)), (.int .i64 (x.sb)), (.int .i64 (x.sm))] : List Value)), Z1 b14 53 (([(.int .i64 (0)), (.int .i64 (0))] : List Value) ++ hc Zt ++ ([(.int .i64 (0)), (.int .i64 (0)), (.int .i64 (0)), (.slice none 0 0)] : List Value)), Z1 b18 53 (([(.int .i64 (x.cl)), (.int .i64 (x.seq))] : List Value) ++ hc x.h ++ ([(.int .i64 (x.len)), (.int .i64 (x.sb)), (.int .i64 (x.sm)), (.slice none 0 0)] : List Value))] w22)
 refine hK21 _ _ ?_
 clear hK21 K21
 refine Zi ?_
 refine Z4 ?_
 refine Zb ?_
 refine Zl ?_
 refine Z3 (Z0 rfl) (d := 16) (v := (.int .i64 (from_))) rfl (by kernel_rfl) ?_
 refine Z3 (Z0 rfl) (d := 17) (v := (.pointer (some ⟨b6, 0, none⟩))) rfl (by kernel_rfl) ?_
 refine Z3 (Z0 rfl) (d := 18) (v := (.int .i64 (f))) rfl (Za rfl (by kernel_rfl) (H23.cell 6 rfl rfl)) ?_
 refine Z3 (Z0 rfl) (d := 19) (v := (.int .i64 (f + 1))) rfl (Z0l (z := f + 1) (by kernel_rfl) (IntWalk.i64_in _ (by omega))) ?_
 refine ZQ (Z0 rfl) (fun K25 hK25 => ?_)
 refine ZX (d := 20) rfl (by kernel_rfl) (Z2V w22 from_ (f + 1) (by omega)) ?_
 rintro _ w26 ⟨rfl, u28⟩
 have H27 := H23.keepU u28
 refine ⟨_, rfl, ?_⟩
 refine hK25 _ _ ?_
 clear hK25 K25
 refine Z3 (Z0 rfl) (d := 3) (v := (.int .i64 (Z0a from_ (f + 1)))) rfl (by kernel_rfl) ?_
 refine Zi ?_
 refine Z4 ?_
 refine Zb ?_
 refine Zb ?_
 refine Zl ?_
 refine Z3 (Z0 rfl) (d := 12) (v := (.int .i64 (0))) rfl (by kernel_rfl) ?_
 refine Zi ?_
 refine Z4 ?_
 refine ZO ?_
 have H29 := H27.addNil 101 38
 refine Z0c [12, 13, 21, 22, 23, 24, 25, 26, 27, 28, 29, 30, 31, 32, 33, 34, 35, 36, 37, 38, 39, 40, 41, 42, 43, 44, 45, 46, 47, 48] (fun F_ W_ m_ => ∃ (i : Nat) (da : Option Addr) (dc : Nat) (D : List Ze) (ra : Option Addr) (rc : Nat) (L1 : List Signed), F_ 12 = (.int .i64 ((i : Int))) ∧ (i ≤ Q) ∧ (∀ s ∈ D, StB s) ∧ (L1.Nodup) ∧ (L1.length ≤ L.length + i) ∧ (D.length = i) ∧ (L <+: L1) ∧ (RiseS x (Z0a from_ (f + 1)) L1 D) ∧ Sat w [Z1 b 110 ([(.map (some mb))] : List Value), ZA mb Z7 (Value.int .i64) (Zh L1), Z1 r 98 ([(.slice ra L1.length rc)] : List Value), Zd 114 2 (.slice ra L1.length rc) L1.length (L1.flatMap Z1b), Z5 w (ZI (Z0A b mb r a c L)).fp, Z1 b2 40 ([(.pointer (some ⟨b, 0, none⟩)), (.pointer (some ⟨r, 0, none⟩))] : List Value), Z1 b6 36 ([(.int .i64 (f)), (.int .i64 (cn))] : List Value), Z1 b10 50 (([(.int .i64 (x.cl)), (.int .i64 (x.seq))] : List Value) ++ hc x.h ++ ([(.int .i64 (x.len)), (.int .i64 (x.sb)), (.int .i64 (x.sm))] : List Value)), Z1 b14 53 (([(.int .i64 (0)), (.int .i64 (0))] : List Value) ++ hc Zt ++ ([(.int .i64 (0)), (.int .i64 (0)), (.int .i64 (0)), (.slice none 0 0)] : List Value)), Z1 b18 53 (([(.int .i64 (x.cl)), (.int .i64 (x.seq))] : List Value) ++ hc x.h ++ ([(.int .i64 (x.len)), (.int .i64 (x.sb)), (.int .i64 (x.sm)), (.slice da D.length dc)] : List Value)), Zd 101 38 (.slice da D.length dc) D.length (D.flatMap Z0o)] W_ ∧ m_ = Q - i) _ ⟨0, none, 0, [], a, c, L, (show ((.int .i64 (0)) : Value) = _ by first | rfl | go_num), (Nat.zero_le _), (by simp), hn, (by omega), rfl, (List.prefix_refl _), RiseS.nil, H29, rfl⟩ ?_
 rintro g30 w31 _ ⟨i, da, dc, D, ra, rc, L1, v33, hin, hok, hnd, hLl, hDl, hpre, hrs, H32, rfl⟩
 refine Zj 12 _ v33 ?_
 refine Zb ?_
 refine Zb ?_
 refine Zl ?_
 refine Z3 (Z0 rfl) (d := 21) (v := (.int .i64 ((i : Int)))) rfl (by kernel_rfl) ?_
 refine Z3 (Z0 rfl) (d := 22) (v := (.agg ⟨([(.int .i64 (f)), (.int .i64 (cn))] : List Value)⟩)) rfl (Zs (vs := ([(.int .i64 (f)), (.int .i64 (cn))] : List Value)) rfl (by kernel_rfl) (by kernel_rfl) (by exact Nat.le_of_ble_eq_true (by kernel_rfl)) (H32.at 6 rfl) (by kernel_rfl)) ?_
 refine ZQ (Z0 rfl) (fun K35 hK35 => ?_)
 refine ZX (d := 23) rfl (by kernel_rfl) (Z9d w31 f cn (by omega)) ?_
 rintro _ w36 ⟨rfl, u38⟩
 have H37 := H32.keepU u38
 refine ⟨_, rfl, ?_⟩
 refine hK35 _ _ ?_
 clear hK35 K35
 refine Z3 (Z0 rfl) (d := 24) (v := (.bool (decide ((i : Int) < (2 * f + 1))))) rfl (by kernel_rfl) ?_
 refine Zi ?_
 refine Z4 ?_
 refine (ZD (decide ((i : Int) < (2 * f + 1)))).elim (fun b39 => ?_) (fun b39 => ?_)
 ·have g40 := of_decide_eq_true b39
  refine Zj 24 (.bool true) (congrArg Value.bool b39) ?_
  have g41 := of_decide_eq_true b39
  refine Z0p rfl ?_
  refine ZZ ?_
  refine Z4 ?_
  refine Zb ?_
  refine ZO ?_
  refine Zb ?_
  refine Zl ?_
  refine Z3 (Z0 rfl) (d := 13) (v := (.int .u64 (5))) rfl (by kernel_rfl) ?_
  refine Zi ?_
  refine Z4 ?_
  refine Zb ?_
  refine Zb ?_
  refine Zl ?_
  refine Z3 (Z0 rfl) (d := 27) (v := (.int .i64 ((i : Int)))) rfl (by kernel_rfl) ?_
  refine Z3 (Z0 rfl) (d := 28) (v := (.slice va xs.length vc)) rfl (by kernel_rfl) ?_
  refine Z3 (Z0 rfl) (d := 29) (v := (.int .i64 ((xs.length : Int)))) rfl (by kernel_rfl) ?_
  refine Z3 (Z0 rfl) (d := 30) (v := (.bool (decide ((i : Int) < (xs.length : Int))))) rfl (by kernel_rfl) ?_
  refine Zi ?_
  refine Z4 ?_
  refine (ZD (decide ((i : Int) < (xs.length : Int)))).elim (fun b42 => ?_) (fun b42 => ?_)
  ·have g43 := of_decide_eq_true b42
   refine Zj 30 (.bool true) (congrArg Value.bool b42) ?_
   have g44 := of_decide_eq_true b42
   refine Z0p rfl ?_
   have hx0 : 0 ≤ xs.getD i 0 := (hbd _ (Z7A (by omega))).1
   refine Zl ?_
   refine Z3 (Z0 rfl) (d := 31) (v := (.slice va xs.length vc)) rfl (by kernel_rfl) ?_
   refine Z3 (Z0 rfl) (d := 32) (v := (.int .i64 ((i : Int)))) rfl (by kernel_rfl) ?_
   obtain ⟨g45, o46, c47, e48, R49⟩ := SliceOf.atD hxs 0 (show i < xs.length by omega)
   refine Z3 (Z0 rfl) (d := 33) (v := (.pointer (some ⟨g45, o46 + ((i : Int)).toNat * 1, none⟩))) rfl (Z0j (E := 27) (by kernel_rfl) (by kernel_rfl) (Nat.le_of_ble_eq_true rfl) rfl e48 rfl (by omega) (by omega)) ?_
   refine Z3 (Z0 rfl) (d := 34) (v := (.int .u64 ((xs.getD i 0)))) rfl (Za rfl (by kernel_rfl) (H37.cellR 4 rfl (Z2T R49 0 (by kernel_rfl) (show o46 + ((i : Int)).toNat * 1 = o46 + i * 1 + 0 by omega)) (by have hq := hva (by omega) _ (Z6i e48); exact hq))) ?_
   refine Z3 (Z0 rfl) (d := 35) (v := (.int .u64 ((xs.getD i 0) % 1000))) rfl (Z8k (by kernel_rfl) (by omega) (by omega)) ?_
   refine Z3 (Z0 rfl) (d := 36) (v := (.int .u64 (1 + ((xs.getD i 0) % 1000)))) rfl (Z0l (z := 1 + ((xs.getD i 0) % 1000)) (by kernel_rfl) (Z1k (by omega))) ?_
   refine Z3 (Z0 rfl) (d := 13) (v := (.int .u64 (1 + ((xs.getD i 0) % 1000)))) rfl (by kernel_rfl) ?_
   refine Zi ?_
   refine Z4 ?_
   refine Z1v H37 [Z5 w (ZI (Z0A b mb r a c L)).fp, Z1 b2 40 ([(.pointer (some ⟨b, 0, none⟩)), (.pointer (some ⟨r, 0, none⟩))] : List Value), Z1 b6 36 ([(.int .i64 (f)), (.int .i64 (cn))] : List Value), Z1 b10 50 (([(.int .i64 (x.cl)), (.int .i64 (x.seq))] : List Value) ++ hc x.h ++ ([(.int .i64 (x.len)), (.int .i64 (x.sb)), (.int .i64 (x.sm))] : List Value)), Z1 b14 53 (([(.int .i64 (0)), (.int .i64 (0))] : List Value) ++ hc Zt ++ ([(.int .i64 (0)), (.int .i64 (0)), (.int .i64 (0)), (.slice none 0 0)] : List Value)), Z1 b18 53 (([(.int .i64 (x.cl)), (.int .i64 (x.seq))] : List Value) ++ hc x.h ++ ([(.int .i64 (x.len)), (.int .i64 (x.sb)), (.int .i64 (x.sm)), (.slice da D.length dc)] : List Value))] [12] 13 rfl (by kernel_rfl) (fun Hx => (Hx.pick [4, 5, 6, 7, 8, 9] (by decide))) ?_
   intro w50 H51 S52
   refine Z0g 0 rfl (by kernel_rfl) (by kernel_rfl) (by kernel_rfl) (fun _ _ _ h => h) S52 (Z0 rfl) rfl (d := 37) (v := (.pointer (some ⟨b18, 37, none⟩))) rfl (fun _ => (by kernel_rfl)) ?_
   refine Z3e 1 rfl (by kernel_rfl) (by kernel_rfl) (by kernel_rfl) (fun _ _ _ h => h) S52 (Z0 rfl) rfl (by kernel_rfl) (d := 38) (v := (.slice da D.length dc)) rfl (fun _ H' => (Za rfl (by kernel_rfl) (H'.cell 5 rfl (by kernel_rfl)))) ?_
   refine Z3e 2 rfl (by kernel_rfl) (by kernel_rfl) (by kernel_rfl) (fun _ _ _ h => h) S52 (Z0 rfl) rfl (by kernel_rfl) (d := 39) (v := (.agg ⟨([(.pointer (some ⟨b, 0, none⟩)), (.pointer (some ⟨r, 0, none⟩))] : List Value)⟩)) rfl (fun _ H' => (Zs (vs := ([(.pointer (some ⟨b, 0, none⟩)), (.pointer (some ⟨r, 0, none⟩))] : List Value)) rfl (by kernel_rfl) (by kernel_rfl) (by exact Nat.le_of_ble_eq_true (by kernel_rfl)) (H'.at 1 rfl) (by kernel_rfl))) ?_
   refine Z0g 3 rfl (by kernel_rfl) (by kernel_rfl) (by kernel_rfl) (fun _ _ _ h => h) S52 (Z0 rfl) rfl (d := 40) (v := (.int .i64 (Z0a from_ (f + 1)))) rfl (fun _ => (by kernel_rfl)) ?_
   refine Z0g 4 rfl (by kernel_rfl) (by kernel_rfl) (by kernel_rfl) (fun _ _ _ h => h) S52 (Z0 rfl) rfl (d := 41) (v := (.int .i64 ((i : Int)))) rfl (fun _ => (by kernel_rfl)) ?_
   refine Z0g 5 rfl (by kernel_rfl) (by kernel_rfl) (by kernel_rfl) (fun _ _ _ h => h) S52 (Z0 rfl) rfl (d := 42) (v := (.int .i64 ((Z0a from_ (f + 1)) + (i : Int)))) rfl (fun _ => (Z0l (z := (Z0a from_ (f + 1)) + (i : Int)) (by kernel_rfl) (IntWalk.i64_in _ (by omega)))) ?_
   refine Z3e 6 rfl (by kernel_rfl) (by kernel_rfl) (by kernel_rfl) (fun _ _ _ h => h) S52 (Z0 rfl) rfl (by kernel_rfl) (d := 43) (v := (.agg ⟨(([(.int .i64 (x.cl)), (.int .i64 (x.seq))] : List Value) ++ hc x.h ++ ([(.int .i64 (x.len)), (.int .i64 (x.sb)), (.int .i64 (x.sm))] : List Value))⟩)) rfl (fun _ H' => (Zs (vs := (([(.int .i64 (x.cl)), (.int .i64 (x.seq))] : List Value) ++ hc x.h ++ ([(.int .i64 (x.len)), (.int .i64 (x.sb)), (.int .i64 (x.sm))] : List Value))) rfl (by kernel_rfl) (by kernel_rfl) (by exact Nat.le_of_ble_eq_true (by kernel_rfl)) (H'.at 3 rfl) (by kernel_rfl))) ?_
   refine Z0g 7 rfl (by kernel_rfl) (by kernel_rfl) (by kernel_rfl) (fun _ _ _ h => h) S52 (Z0 rfl) rfl (d := 44) (v := (.int .u64 (1 + ((xs.getD i 0) % 1000)))) rfl (fun _ => (by kernel_rfl)) ?_
   refine Z7r 8 rfl (by kernel_rfl) (Z0 rfl) rfl (fun K53 hK53 => ?_)
   refine ZX (d := 45) rfl (by kernel_rfl) (Z4c w50 b mb r ra rc L1 (H51.fin [0, 1, 2, 3] (by decide) rfl) ((Z0a from_ (f + 1)) + (i : Int)) x (1 + ((xs.getD i 0) % 1000)) (by omega) hx (by omega) (by omega) hnd) ?_
   rintro _ w54 ⟨a56, c57, rfl, T55⟩
   obtain ⟨L59, hL59⟩ : ∃ L59 : List Signed, L59 = Zg L1 (yS ((Z0a from_ (f + 1)) + (i : Int)) x (1 + ((xs.getD i 0) % 1000))) := ⟨_, rfl⟩
   rw [← hL59] at T55
   have H60 : Sat w [Z1 b 110 ([(.map (some mb))] : List Value), ZA mb Z7 (Value.int .i64) (Zh L59), Z1 r 98 ([(.slice a56 L59.length c57)] : List Value), Zd 114 2 (.slice a56 L59.length c57) L59.length (L59.flatMap Z1b), Z5 w (ZI (Z0A b mb r a c L)).fp, Z1 b2 40 ([(.pointer (some ⟨b, 0, none⟩)), (.pointer (some ⟨r, 0, none⟩))] : List Value), Z1 b6 36 ([(.int .i64 (f)), (.int .i64 (cn))] : List Value), Z1 b10 50 (([(.int .i64 (x.cl)), (.int .i64 (x.seq))] : List Value) ++ hc x.h ++ ([(.int .i64 (x.len)), (.int .i64 (x.sb)), (.int .i64 (x.sm))] : List Value)), Z1 b14 53 (([(.int .i64 (0)), (.int .i64 (0))] : List Value) ++ hc Zt ++ ([(.int .i64 (0)), (.int .i64 (0)), (.int .i64 (0)), (.slice none 0 0)] : List Value)), Z1 b18 53 (([(.int .i64 (x.cl)), (.int .i64 (x.seq))] : List Value) ++ hc x.h ++ ([(.int .i64 (x.len)), (.int .i64 (x.sb)), (.int .i64 (x.sm)), (.slice da D.length dc)] : List Value)), Zd 101 38 (.slice da D.length dc) D.length (D.flatMap Z0o)] w54 := (Sat.turnL (L' := [Z1 b 110 ([(.map (some mb))] : List Value), ZA mb Z7 (Value.int .i64) (Zh L59), Z1 r 98 ([(.slice a56 L59.length c57)] : List Value), Zd 114 2 (.slice a56 L59.length c57) L59.length (L59.flatMap Z1b)]) (R := [Z5 w (ZI (Z0A b mb r a c L)).fp, Z1 b2 40 ([(.pointer (some ⟨b, 0, none⟩)), (.pointer (some ⟨r, 0, none⟩))] : List Value), Z1 b6 36 ([(.int .i64 (f)), (.int .i64 (cn))] : List Value), Z1 b10 50 (([(.int .i64 (x.cl)), (.int .i64 (x.seq))] : List Value) ++ hc x.h ++ ([(.int .i64 (x.len)), (.int .i64 (x.sb)), (.int .i64 (x.sm))] : List Value)), Z1 b14 53 (([(.int .i64 (0)), (.int .i64 (0))] : List Value) ++ hc Zt ++ ([(.int .i64 (0)), (.int .i64 (0)), (.int .i64 (0)), (.slice none 0 0)] : List Value)), Z1 b18 53 (([(.int .i64 (x.cl)), (.int .i64 (x.seq))] : List Value) ++ hc x.h ++ ([(.int .i64 (x.len)), (.int .i64 (x.sb)), (.int .i64 (x.sm)), (.slice da D.length dc)] : List Value)), Zd 101 38 (.slice da D.length dc) D.length (D.flatMap Z0o)]) H51 [0, 1, 2, 3] [4, 5, 6, 7, 8, 9, 10] (by decide) (by kernel_rfl) rfl T55).pick [0, 1, 2, 3, 4, 5, 6, 7, 8, 9, 10] (by decide)
   refine ⟨_, rfl, ?_⟩
   obtain ⟨S58, hS58⟩ : ∃ S58 : Ze, S58 = mkS L1 ((Z0a from_ (f + 1)) + (i : Int)) x (1 + ((xs.getD i 0) % 1000)) := ⟨_, rfl⟩
   rw [← hS58]
   have ndL59 : L59.Nodup := by rw [hL59]; exact Z0K hnd _
   have llL59 : L59.length ≤ L1.length + 1 := by rw [hL59]; exact Z0W _ _
   have S61 := H60.pick [4, 5, 6, 7, 8, 9] (by decide)
   refine hK53 _ _ S61 ?_
   clear hK53 K53
   refine Z7r 9 rfl (by kernel_rfl) (Z0 rfl) rfl (fun K62 hK62 => ?_)
   refine Z05 (e := 101) (size := 38) (bytes := 80) (z := (.agg ⟨(([(.int .i64 (0)), (.int .i64 (0)), (.int .i64 (0))] : List Value) ++ hc Zt ++ ([(.int .u64 (0)), (.int .i64 (0)), (.int .i64 (0))] : List Value))⟩)) (pvs := [(0, (.agg ⟨(([(.int .i64 (S58.r)), (.int .i64 (S58.cl)), (.int .i64 (S58.seq))] : List Value) ++ hc S58.h ++ ([(.int .u64 (S58.t)), (.int .i64 (S58.sb)), (.int .i64 (S58.sm))] : List Value))⟩))]) (vs := (([(.int .i64 (S58.r)), (.int .i64 (S58.cl)), (.int .i64 (S58.seq))] : List Value) ++ hc S58.h ++ ([(.int .u64 (S58.t)), (.int .i64 (S58.sb)), (.int .i64 (S58.sm))] : List Value))) rfl H60 (by kernel_rfl) (by kernel_rfl) (by kernel_rfl) (by kernel_rfl) (by kernel_rfl) rfl rfl ?_
   intro b63 w64 (H65 : Sat w [Z1 b 110 ([(.map (some mb))] : List Value), ZA mb Z7 (Value.int .i64) (Zh L59), Z1 r 98 ([(.slice a56 L59.length c57)] : List Value), Zd 114 2 (.slice a56 L59.length c57) L59.length (L59.flatMap Z1b), Z5 w (ZI (Z0A b mb r a c L)).fp, Z1 b2 40 ([(.pointer (some ⟨b, 0, none⟩)), (.pointer (some ⟨r, 0, none⟩))] : List Value), Z1 b6 36 ([(.int .i64 (f)), (.int .i64 (cn))] : List Value), Z1 b10 50 (([(.int .i64 (x.cl)), (.int .i64 (x.seq))] : List Value) ++ hc x.h ++ ([(.int .i64 (x.len)), (.int .i64 (x.sb)), (.int .i64 (x.sm))] : List Value)), Z1 b14 53 (([(.int .i64 (0)), (.int .i64 (0))] : List Value) ++ hc Zt ++ ([(.int .i64 (0)), (.int .i64 (0)), (.int .i64 (0)), (.slice none 0 0)] : List Value)), Z1 b18 53 (([(.int .i64 (x.cl)), (.int .i64 (x.seq))] : List Value) ++ hc x.h ++ ([(.int .i64 (x.len)), (.int .i64 (x.sb)), (.int .i64 (x.sm)), (.slice da D.length dc)] : List Value)), Zd 101 38 (.slice da D.length dc) D.length (D.flatMap Z0o), Zd 101 38 (.slice (some ⟨b63, 0, none⟩) 1 1) 1 (([(.int .i64 (S58.r)), (.int .i64 (S58.cl)), (.int .i64 (S58.seq))] : List Value) ++ hc S58.h ++ ([(.int .u64 (S58.t)), (.int .i64 (S58.sb)), (.int .i64 (S58.sm))] : List Value))] w64)
   have H66 : Sat w [Z1 b 110 ([(.map (some mb))] : List Value), ZA mb Z7 (Value.int .i64) (Zh L59), Z1 r 98 ([(.slice a56 L59.length c57)] : List Value), Zd 114 2 (.slice a56 L59.length c57) L59.length (L59.flatMap Z1b), Z5 w (ZI (Z0A b mb r a c L)).fp, Z1 b2 40 ([(.pointer (some ⟨b, 0, none⟩)), (.pointer (some ⟨r, 0, none⟩))] : List Value), Z1 b6 36 ([(.int .i64 (f)), (.int .i64 (cn))] : List Value), Z1 b10 50 (([(.int .i64 (x.cl)), (.int .i64 (x.seq))] : List Value) ++ hc x.h ++ ([(.int .i64 (x.len)), (.int .i64 (x.sb)), (.int .i64 (x.sm))] : List Value)), Z1 b14 53 (([(.int .i64 (0)), (.int .i64 (0))] : List Value) ++ hc Zt ++ ([(.int .i64 (0)), (.int .i64 (0)), (.int .i64 (0)), (.slice none 0 0)] : List Value)), Z1 b18 53 (([(.int .i64 (x.cl)), (.int .i64 (x.seq))] : List Value) ++ hc x.h ++ ([(.int .i64 (x.len)), (.int .i64 (x.sb)), (.int .i64 (x.sm)), (.slice da D.length dc)] : List Value)), Zd 101 38 (.slice da D.length dc) D.length (D.flatMap Z0o), Zd 101 38 (.slice (some ⟨b63, 0, none⟩) 1 1) 1 ([S58].flatMap Z0o)] w64 := H65.cast (by rw [(show ((([(.int .i64 (S58.r)), (.int .i64 (S58.cl)), (.int .i64 (S58.seq))] : List Value) ++ hc S58.h ++ ([(.int .u64 (S58.t)), (.int .i64 (S58.sb)), (.int .i64 (S58.sm))] : List Value)) : List Value) = [S58].flatMap Z0o by kernel_rfl)])
   have S67 := H66.pick [4, 5, 6, 7, 8, 9] (by decide)
   refine hK62 _ _ S67 ?_
   clear hK62 K62
   refine Z7r 10 rfl (by kernel_rfl) (Z0 rfl) rfl (fun K68 hK68 => ?_)
   refine Z17 (T := 51) (e := 101) (size := 38) (bytes := 80) rfl H66 (by kernel_rfl) 10 11 rfl rfl rfl rfl (Z0Z Z0o Z4s [S58]) (by omega) (by omega) ?_
   intro v69 w70 (H71 : Sat w [Z1 b 110 ([(.map (some mb))] : List Value), ZA mb Z7 (Value.int .i64) (Zh L59), Z1 r 98 ([(.slice a56 L59.length c57)] : List Value), Zd 114 2 (.slice a56 L59.length c57) L59.length (L59.flatMap Z1b), Z5 w (ZI (Z0A b mb r a c L)).fp, Z1 b2 40 ([(.pointer (some ⟨b, 0, none⟩)), (.pointer (some ⟨r, 0, none⟩))] : List Value), Z1 b6 36 ([(.int .i64 (f)), (.int .i64 (cn))] : List Value), Z1 b10 50 (([(.int .i64 (x.cl)), (.int .i64 (x.seq))] : List Value) ++ hc x.h ++ ([(.int .i64 (x.len)), (.int .i64 (x.sb)), (.int .i64 (x.sm))] : List Value)), Z1 b14 53 (([(.int .i64 (0)), (.int .i64 (0))] : List Value) ++ hc Zt ++ ([(.int .i64 (0)), (.int .i64 (0)), (.int .i64 (0)), (.slice none 0 0)] : List Value)), Z1 b18 53 (([(.int .i64 (x.cl)), (.int .i64 (x.seq))] : List Value) ++ hc x.h ++ ([(.int .i64 (x.len)), (.int .i64 (x.sb)), (.int .i64 (x.sm)), (.slice da D.length dc)] : List Value)), Zd 101 38 v69 (D.length + 1) ((D.flatMap Z0o) ++ ([S58].flatMap Z0o)), Zd 101 38 (.slice (some ⟨b63, 0, none⟩) 1 1) 1 ([S58].flatMap Z0o)] w70)
   have H74 : Sat w [Z1 b 110 ([(.map (some mb))] : List Value), ZA mb Z7 (Value.int .i64) (Zh L59), Z1 r 98 ([(.slice a56 L59.length c57)] : List Value), Zd 114 2 (.slice a56 L59.length c57) L59.length (L59.flatMap Z1b), Z5 w (ZI (Z0A b mb r a c L)).fp, Z1 b2 40 ([(.pointer (some ⟨b, 0, none⟩)), (.pointer (some ⟨r, 0, none⟩))] : List Value), Z1 b6 36 ([(.int .i64 (f)), (.int .i64 (cn))] : List Value), Z1 b10 50 (([(.int .i64 (x.cl)), (.int .i64 (x.seq))] : List Value) ++ hc x.h ++ ([(.int .i64 (x.len)), (.int .i64 (x.sb)), (.int .i64 (x.sm))] : List Value)), Z1 b14 53 (([(.int .i64 (0)), (.int .i64 (0))] : List Value) ++ hc Zt ++ ([(.int .i64 (0)), (.int .i64 (0)), (.int .i64 (0)), (.slice none 0 0)] : List Value)), Z1 b18 53 (([(.int .i64 (x.cl)), (.int .i64 (x.seq))] : List Value) ++ hc x.h ++ ([(.int .i64 (x.len)), (.int .i64 (x.sb)), (.int .i64 (x.sm)), (.slice da D.length dc)] : List Value)), Zd 101 38 v69 ((D ++ [S58]).length) ((D ++ [S58]).flatMap Z0o), Zd 101 38 (.slice (some ⟨b63, 0, none⟩) 1 1) 1 ([S58].flatMap Z0o)] w70 := H71.cast (by simp only [List.length_append, List.flatMap_append] <;> rfl)
   obtain ⟨a72, c73, rfl⟩ := Z9 (H74.at 10 rfl)
   have S75 := H74.pick [4, 5, 6, 7, 8, 9] (by decide)
   refine hK68 _ _ S75 ?_
   clear hK68 K68
   refine Z0g 11 rfl (by kernel_rfl) (by kernel_rfl) (by kernel_rfl) (fun _ _ _ h => h) S75 (Z0 rfl) rfl (d := 48) (v := (.pointer (some ⟨b18, 37, none⟩))) rfl (fun _ => (by kernel_rfl)) ?_
   refine Z3l 12 (Sat w [Z5 w (ZI (Z0A b mb r a c L)).fp, Z1 b2 40 ([(.pointer (some ⟨b, 0, none⟩)), (.pointer (some ⟨r, 0, none⟩))] : List Value), Z1 b6 36 ([(.int .i64 (f)), (.int .i64 (cn))] : List Value), Z1 b10 50 (([(.int .i64 (x.cl)), (.int .i64 (x.seq))] : List Value) ++ hc x.h ++ ([(.int .i64 (x.len)), (.int .i64 (x.sb)), (.int .i64 (x.sm))] : List Value)), Z1 b14 53 (([(.int .i64 (0)), (.int .i64 (0))] : List Value) ++ hc Zt ++ ([(.int .i64 (0)), (.int .i64 (0)), (.int .i64 (0)), (.slice none 0 0)] : List Value))]) rfl (by kernel_rfl) (Z0 rfl) rfl (fun K76 hK76 => ?_)
   refine Z0q (vs := ([(.slice a72 ((D ++ [S58]).length) c73)] : List Value)) (cs' := (([(.int .i64 (x.cl)), (.int .i64 (x.seq))] : List Value) ++ hc x.h ++ ([(.int .i64 (x.len)), (.int .i64 (x.sb)), (.int .i64 (x.sm)), (.slice a72 ((D ++ [S58]).length) c73)] : List Value))) rfl H74 9 rfl rfl rfl rfl (by kernel_rfl) (Nat.le_of_ble_eq_true (by kernel_rfl)) (Nat.le_of_ble_eq_true (by kernel_rfl)) (by kernel_rfl) (by kernel_rfl) ?_
   intro w77 (H78 : Sat w [Z1 b 110 ([(.map (some mb))] : List Value), ZA mb Z7 (Value.int .i64) (Zh L59), Z1 r 98 ([(.slice a56 L59.length c57)] : List Value), Zd 114 2 (.slice a56 L59.length c57) L59.length (L59.flatMap Z1b), Z5 w (ZI (Z0A b mb r a c L)).fp, Z1 b2 40 ([(.pointer (some ⟨b, 0, none⟩)), (.pointer (some ⟨r, 0, none⟩))] : List Value), Z1 b6 36 ([(.int .i64 (f)), (.int .i64 (cn))] : List Value), Z1 b10 50 (([(.int .i64 (x.cl)), (.int .i64 (x.seq))] : List Value) ++ hc x.h ++ ([(.int .i64 (x.len)), (.int .i64 (x.sb)), (.int .i64 (x.sm))] : List Value)), Z1 b14 53 (([(.int .i64 (0)), (.int .i64 (0))] : List Value) ++ hc Zt ++ ([(.int .i64 (0)), (.int .i64 (0)), (.int .i64 (0)), (.slice none 0 0)] : List Value)), Z1 b18 53 (([(.int .i64 (x.cl)), (.int .i64 (x.seq))] : List Value) ++ hc x.h ++ ([(.int .i64 (x.len)), (.int .i64 (x.sb)), (.int .i64 (x.sm)), (.slice a72 ((D ++ [S58]).length) c73)] : List Value)), Zd 101 38 (.slice a72 ((D ++ [S58]).length) c73) ((D ++ [S58]).length) ((D ++ [S58]).flatMap Z0o), Zd 101 38 (.slice (some ⟨b63, 0, none⟩) 1 1) 1 ([S58].flatMap Z0o)] w77)
   have S80 := H78.pick [4, 5, 6, 7, 8] (by decide)
   refine hK76 _ _ S80 ?_
   clear hK76 K76
   refine Z20 (by kernel_rfl) ?_
   refine ZE ?_
   refine Z4 ?_
   refine Zl ?_
   refine Z3 (Z0 rfl) (d := 25) (v := (.int .i64 ((i : Int)))) rfl (by kernel_rfl) ?_
   refine Z3 (Z0 rfl) (d := 26) (v := (.int .i64 ((i : Int) + 1))) rfl (Z0l (z := (i : Int) + 1) (by kernel_rfl) (IntWalk.i64_in _ (by omega))) ?_
   refine Z3 (Z0 rfl) (d := 12) (v := (.int .i64 ((i : Int) + 1))) rfl (by kernel_rfl) ?_
   refine Zi ?_
   have hok2 : ∀ s ∈ (D ++ [S58]), StB s := fun s hs => by
    rcases List.mem_append.1 hs with h | h
    ·exact hok s h
    ·rw [List.mem_singleton.1 h, hS58]; exact ⟨⟨by show Z0a from_ (f + 1) + (i : Int) ≤ _; omega, hx.1, hx.2.1, by show 0 ≤ (1 + ((xs.getD i 0) % 1000)); omega, by show (1 + ((xs.getD i 0) % 1000)) < _; omega⟩, by show Z0a from_ (f + 1) + (i : Int) ≤ _; omega, by have q1 := (Z2l (Z1N L1 (yS (Z0a from_ (f + 1) + (i : Int)) x (1 + ((xs.getD i 0) % 1000))))).2; have q2 := Z0W L1 (yS (Z0a from_ (f + 1) + (i : Int)) x (1 + ((xs.getD i 0) % 1000))); show Zm _ _ ≤ _; omega⟩
   have H81 : Sat w [Z1 b 110 ([(.map (some mb))] : List Value), ZA mb Z7 (Value.int .i64) (Zh L59), Z1 r 98 ([(.slice a56 L59.length c57)] : List Value), Zd 114 2 (.slice a56 L59.length c57) L59.length (L59.flatMap Z1b), Z5 w (ZI (Z0A b mb r a c L)).fp, Z1 b2 40 ([(.pointer (some ⟨b, 0, none⟩)), (.pointer (some ⟨r, 0, none⟩))] : List Value), Z1 b6 36 ([(.int .i64 (f)), (.int .i64 (cn))] : List Value), Z1 b10 50 (([(.int .i64 (x.cl)), (.int .i64 (x.seq))] : List Value) ++ hc x.h ++ ([(.int .i64 (x.len)), (.int .i64 (x.sb)), (.int .i64 (x.sm))] : List Value)), Z1 b14 53 (([(.int .i64 (0)), (.int .i64 (0))] : List Value) ++ hc Zt ++ ([(.int .i64 (0)), (.int .i64 (0)), (.int .i64 (0)), (.slice none 0 0)] : List Value)), Z1 b18 53 (([(.int .i64 (x.cl)), (.int .i64 (x.seq))] : List Value) ++ hc x.h ++ ([(.int .i64 (x.len)), (.int .i64 (x.sb)), (.int .i64 (x.sm)), (.slice a72 ((D ++ [S58]).length) c73)] : List Value)), Zd 101 38 (.slice a72 ((D ++ [S58]).length) c73) ((D ++ [S58]).length) ((D ++ [S58]).flatMap Z0o)] w77 := H78.pick [0, 1, 2, 3, 4, 5, 6, 7, 8, 9, 10] (by decide)
   refine ZH ?_ _ ⟨(i + 1), a72, c73, (D ++ [S58]), a56, c57, L59, (show ((.int .i64 ((i : Int) + 1)) : Value) = _ by first | rfl | go_num), (by omega), hok2, ndL59, (by omega), (by simp only [List.length_append, List.length_cons, List.length_nil]; omega), (by rw [hL59]; exact hpre.trans (by unfold Zg; split; exact List.prefix_refl _; exact List.prefix_append _ _)), (by rw [hL59, hS58]; exact hrs.step hDl (by omega)), H81, rfl⟩ (by omega)
   exact (Z2 rfl (Z2 rfl (Z2 rfl (Z2 rfl (Z2 rfl (Z2 rfl (Z2 rfl (Z2 rfl (Z2 rfl (Z2 rfl (Z2 rfl (Z2 rfl (Z2 rfl (Z2 rfl (Z2 rfl (Z2 rfl (Z2 rfl (Z2 rfl (Z2 rfl (Z2 rfl (Z2 rfl (Z2 rfl (Z2 rfl (Z2 rfl (Z2 rfl (Z2 rfl (Z2 rfl (Z2 rfl (Z2 rfl (Z2 rfl (Z2 rfl (Z2 rfl (Z2 rfl (Z2 rfl (Z0S)))))))))))))))))))))))))))))))))))
  ·have g82 := of_decide_eq_false b42
   refine Zj 30 (.bool false) (congrArg Value.bool b42) ?_
   have g83 := of_decide_eq_false b42
   refine Z0r rfl ?_
   refine ZZ ?_
   refine Z4 ?_
   refine Z1v H37 [Z5 w (ZI (Z0A b mb r a c L)).fp, Z1 b2 40 ([(.pointer (some ⟨b, 0, none⟩)), (.pointer (some ⟨r, 0, none⟩))] : List Value), Z1 b6 36 ([(.int .i64 (f)), (.int .i64 (cn))] : List Value), Z1 b10 50 (([(.int .i64 (x.cl)), (.int .i64 (x.seq))] : List Value) ++ hc x.h ++ ([(.int .i64 (x.len)), (.int .i64 (x.sb)), (.int .i64 (x.sm))] : List Value)), Z1 b14 53 (([(.int .i64 (0)), (.int .i64 (0))] : List Value) ++ hc Zt ++ ([(.int .i64 (0)), (.int .i64 (0)), (.int .i64 (0)), (.slice none 0 0)] : List Value)), Z1 b18 53 (([(.int .i64 (x.cl)), (.int .i64 (x.seq))] : List Value) ++ hc x.h ++ ([(.int .i64 (x.len)), (.int .i64 (x.sb)), (.int .i64 (x.sm)), (.slice da D.length dc)] : List Value))] [12] 13 rfl (by kernel_rfl) (fun Hx => (Hx.pick [4, 5, 6, 7, 8, 9] (by decide))) ?_
   intro w84 H85 S86
   refine Z0g 0 rfl (by kernel_rfl) (by kernel_rfl) (by kernel_rfl) (fun _ _ _ h => h) S86 (Z0 rfl) rfl (d := 37) (v := (.pointer (some ⟨b18, 37, none⟩))) rfl (fun _ => (by kernel_rfl)) ?_
   refine Z3e 1 rfl (by kernel_rfl) (by kernel_rfl) (by kernel_rfl) (fun _ _ _ h => h) S86 (Z0 rfl) rfl (by kernel_rfl) (d := 38) (v := (.slice da D.length dc)) rfl (fun _ H' => (Za rfl (by kernel_rfl) (H'.cell 5 rfl (by kernel_rfl)))) ?_
   refine Z3e 2 rfl (by kernel_rfl) (by kernel_rfl) (by kernel_rfl) (fun _ _ _ h => h) S86 (Z0 rfl) rfl (by kernel_rfl) (d := 39) (v := (.agg ⟨([(.pointer (some ⟨b, 0, none⟩)), (.pointer (some ⟨r, 0, none⟩))] : List Value)⟩)) rfl (fun _ H' => (Zs (vs := ([(.pointer (some ⟨b, 0, none⟩)), (.pointer (some ⟨r, 0, none⟩))] : List Value)) rfl (by kernel_rfl) (by kernel_rfl) (by exact Nat.le_of_ble_eq_true (by kernel_rfl)) (H'.at 1 rfl) (by kernel_rfl))) ?_
   refine Z0g 3 rfl (by kernel_rfl) (by kernel_rfl) (by kernel_rfl) (fun _ _ _ h => h) S86 (Z0 rfl) rfl (d := 40) (v := (.int .i64 (Z0a from_ (f + 1)))) rfl (fun _ => (by kernel_rfl)) ?_
   refine Z0g 4 rfl (by kernel_rfl) (by kernel_rfl) (by kernel_rfl) (fun _ _ _ h => h) S86 (Z0 rfl) rfl (d := 41) (v := (.int .i64 ((i : Int)))) rfl (fun _ => (by kernel_rfl)) ?_
   refine Z0g 5 rfl (by kernel_rfl) (by kernel_rfl) (by kernel_rfl) (fun _ _ _ h => h) S86 (Z0 rfl) rfl (d := 42) (v := (.int .i64 ((Z0a from_ (f + 1)) + (i : Int)))) rfl (fun _ => (Z0l (z := (Z0a from_ (f + 1)) + (i : Int)) (by kernel_rfl) (IntWalk.i64_in _ (by omega)))) ?_
   refine Z3e 6 rfl (by kernel_rfl) (by kernel_rfl) (by kernel_rfl) (fun _ _ _ h => h) S86 (Z0 rfl) rfl (by kernel_rfl) (d := 43) (v := (.agg ⟨(([(.int .i64 (x.cl)), (.int .i64 (x.seq))] : List Value) ++ hc x.h ++ ([(.int .i64 (x.len)), (.int .i64 (x.sb)), (.int .i64 (x.sm))] : List Value))⟩)) rfl (fun _ H' => (Zs (vs := (([(.int .i64 (x.cl)), (.int .i64 (x.seq))] : List Value) ++ hc x.h ++ ([(.int .i64 (x.len)), (.int .i64 (x.sb)), (.int .i64 (x.sm))] : List Value))) rfl (by kernel_rfl) (by kernel_rfl) (by exact Nat.le_of_ble_eq_true (by kernel_rfl)) (H'.at 3 rfl) (by kernel_rfl))) ?_
   refine Z0g 7 rfl (by kernel_rfl) (by kernel_rfl) (by kernel_rfl) (fun _ _ _ h => h) S86 (Z0 rfl) rfl (d := 44) (v := (.int .u64 (5))) rfl (fun _ => (by kernel_rfl)) ?_
   refine Z7r 8 rfl (by kernel_rfl) (Z0 rfl) rfl (fun K87 hK87 => ?_)
   refine ZX (d := 45) rfl (by kernel_rfl) (Z4c w84 b mb r ra rc L1 (H85.fin [0, 1, 2, 3] (by decide) rfl) ((Z0a from_ (f + 1)) + (i : Int)) x (5 : Int) (by omega) hx (by omega) (by omega) hnd) ?_
   rintro _ w88 ⟨a90, c91, rfl, T89⟩
   obtain ⟨L93, hL93⟩ : ∃ L93 : List Signed, L93 = Zg L1 (yS ((Z0a from_ (f + 1)) + (i : Int)) x (5 : Int)) := ⟨_, rfl⟩
   rw [← hL93] at T89
   have H94 : Sat w [Z1 b 110 ([(.map (some mb))] : List Value), ZA mb Z7 (Value.int .i64) (Zh L93), Z1 r 98 ([(.slice a90 L93.length c91)] : List Value), Zd 114 2 (.slice a90 L93.length c91) L93.length (L93.flatMap Z1b), Z5 w (ZI (Z0A b mb r a c L)).fp, Z1 b2 40 ([(.pointer (some ⟨b, 0, none⟩)), (.pointer (some ⟨r, 0, none⟩))] : List Value), Z1 b6 36 ([(.int .i64 (f)), (.int .i64 (cn))] : List Value), Z1 b10 50 (([(.int .i64 (x.cl)), (.int .i64 (x.seq))] : List Value) ++ hc x.h ++ ([(.int .i64 (x.len)), (.int .i64 (x.sb)), (.int .i64 (x.sm))] : List Value)), Z1 b14 53 (([(.int .i64 (0)), (.int .i64 (0))] : List Value) ++ hc Zt ++ ([(.int .i64 (0)), (.int .i64 (0)), (.int .i64 (0)), (.slice none 0 0)] : List Value)), Z1 b18 53 (([(.int .i64 (x.cl)), (.int .i64 (x.seq))] : List Value) ++ hc x.h ++ ([(.int .i64 (x.len)), (.int .i64 (x.sb)), (.int .i64 (x.sm)), (.slice da D.length dc)] : List Value)), Zd 101 38 (.slice da D.length dc) D.length (D.flatMap Z0o)] w88 := (Sat.turnL (L' := [Z1 b 110 ([(.map (some mb))] : List Value), ZA mb Z7 (Value.int .i64) (Zh L93), Z1 r 98 ([(.slice a90 L93.length c91)] : List Value), Zd 114 2 (.slice a90 L93.length c91) L93.length (L93.flatMap Z1b)]) (R := [Z5 w (ZI (Z0A b mb r a c L)).fp, Z1 b2 40 ([(.pointer (some ⟨b, 0, none⟩)), (.pointer (some ⟨r, 0, none⟩))] : List Value), Z1 b6 36 ([(.int .i64 (f)), (.int .i64 (cn))] : List Value), Z1 b10 50 (([(.int .i64 (x.cl)), (.int .i64 (x.seq))] : List Value) ++ hc x.h ++ ([(.int .i64 (x.len)), (.int .i64 (x.sb)), (.int .i64 (x.sm))] : List Value)), Z1 b14 53 (([(.int .i64 (0)), (.int .i64 (0))] : List Value) ++ hc Zt ++ ([(.int .i64 (0)), (.int .i64 (0)), (.int .i64 (0)), (.slice none 0 0)] : List Value)), Z1 b18 53 (([(.int .i64 (x.cl)), (.int .i64 (x.seq))] : List Value) ++ hc x.h ++ ([(.int .i64 (x.len)), (.int .i64 (x.sb)), (.int .i64 (x.sm)), (.slice da D.length dc)] : List Value)), Zd 101 38 (.slice da D.length dc) D.length (D.flatMap Z0o)]) H85 [0, 1, 2, 3] [4, 5, 6, 7, 8, 9, 10] (by decide) (by kernel_rfl) rfl T89).pick [0, 1, 2, 3, 4, 5, 6, 7, 8, 9, 10] (by decide)
   refine ⟨_, rfl, ?_⟩
   obtain ⟨S92, hS92⟩ : ∃ S92 : Ze, S92 = mkS L1 ((Z0a from_ (f + 1)) + (i : Int)) x (5 : Int) := ⟨_, rfl⟩
   rw [← hS92]
   have ndL93 : L93.Nodup := by rw [hL93]; exact Z0K hnd _
   have llL93 : L93.length ≤ L1.length + 1 := by rw [hL93]; exact Z0W _ _
   have S95 := H94.pick [4, 5, 6, 7, 8, 9] (by decide)
   refine hK87 _ _ S95 ?_
   clear hK87 K87
   refine Z7r 9 rfl (by kernel_rfl) (Z0 rfl) rfl (fun K96 hK96 => ?_)
   refine Z05 (e := 101) (size := 38) (bytes := 80) (z := (.agg ⟨(([(.int .i64 (0)), (.int .i64 (0)), (.int .i64 (0))] : List Value) ++ hc Zt ++ ([(.int .u64 (0)), (.int .i64 (0)), (.int .i64 (0))] : List Value))⟩)) (pvs := [(0, (.agg ⟨(([(.int .i64 (S92.r)), (.int .i64 (S92.cl)), (.int .i64 (S92.seq))] : List Value) ++ hc S92.h ++ ([(.int .u64 (S92.t)), (.int .i64 (S92.sb)), (.int .i64 (S92.sm))] : List Value))⟩))]) (vs := (([(.int .i64 (S92.r)), (.int .i64 (S92.cl)), (.int .i64 (S92.seq))] : List Value) ++ hc S92.h ++ ([(.int .u64 (S92.t)), (.int .i64 (S92.sb)), (.int .i64 (S92.sm))] : List Value))) rfl H94 (by kernel_rfl) (by kernel_rfl) (by kernel_rfl) (by kernel_rfl) (by kernel_rfl) rfl rfl ?_
   intro b97 w98 (H99 : Sat w [Z1 b 110 ([(.map (some mb))] : List Value), ZA mb Z7 (Value.int .i64) (Zh L93), Z1 r 98 ([(.slice a90 L93.length c91)] : List Value), Zd 114 2 (.slice a90 L93.length c91) L93.length (L93.flatMap Z1b), Z5 w (ZI (Z0A b mb r a c L)).fp, Z1 b2 40 ([(.pointer (some ⟨b, 0, none⟩)), (.pointer (some ⟨r, 0, none⟩))] : List Value), Z1 b6 36 ([(.int .i64 (f)), (.int .i64 (cn))] : List Value), Z1 b10 50 (([(.int .i64 (x.cl)), (.int .i64 (x.seq))] : List Value) ++ hc x.h ++ ([(.int .i64 (x.len)), (.int .i64 (x.sb)), (.int .i64 (x.sm))] : List Value)), Z1 b14 53 (([(.int .i64 (0)), (.int .i64 (0))] : List Value) ++ hc Zt ++ ([(.int .i64 (0)), (.int .i64 (0)), (.int .i64 (0)), (.slice none 0 0)] : List Value)), Z1 b18 53 (([(.int .i64 (x.cl)), (.int .i64 (x.seq))] : List Value) ++ hc x.h ++ ([(.int .i64 (x.len)), (.int .i64 (x.sb)), (.int .i64 (x.sm)), (.slice da D.length dc)] : List Value)), Zd 101 38 (.slice da D.length dc) D.length (D.flatMap Z0o), Zd 101 38 (.slice (some ⟨b97, 0, none⟩) 1 1) 1 (([(.int .i64 (S92.r)), (.int .i64 (S92.cl)), (.int .i64 (S92.seq))] : List Value) ++ hc S92.h ++ ([(.int .u64 (S92.t)), (.int .i64 (S92.sb)), (.int .i64 (S92.sm))] : List Value))] w98)
   have H100 : Sat w [Z1 b 110 ([(.map (some mb))] : List Value), ZA mb Z7 (Value.int .i64) (Zh L93), Z1 r 98 ([(.slice a90 L93.length c91)] : List Value), Zd 114 2 (.slice a90 L93.length c91) L93.length (L93.flatMap Z1b), Z5 w (ZI (Z0A b mb r a c L)).fp, Z1 b2 40 ([(.pointer (some ⟨b, 0, none⟩)), (.pointer (some ⟨r, 0, none⟩))] : List Value), Z1 b6 36 ([(.int .i64 (f)), (.int .i64 (cn))] : List Value), Z1 b10 50 (([(.int .i64 (x.cl)), (.int .i64 (x.seq))] : List Value) ++ hc x.h ++ ([(.int .i64 (x.len)), (.int .i64 (x.sb)), (.int .i64 (x.sm))] : List Value)), Z1 b14 53 (([(.int .i64 (0)), (.int .i64 (0))] : List Value) ++ hc Zt ++ ([(.int .i64 (0)), (.int .i64 (0)), (.int .i64 (0)), (.slice none 0 0)] : List Value)), Z1 b18 53 (([(.int .i64 (x.cl)), (.int .i64 (x.seq))] : List Value) ++ hc x.h ++ ([(.int .i64 (x.len)), (.int .i64 (x.sb)), (.int .i64 (x.sm)), (.slice da D.length dc)] : List Value)), Zd 101 38 (.slice da D.length dc) D.length (D.flatMap Z0o), Zd 101 38 (.slice (some ⟨b97, 0, none⟩) 1 1) 1 ([S92].flatMap Z0o)] w98 := H99.cast (by rw [(show ((([(.int .i64 (S92.r)), (.int .i64 (S92.cl)), (.int .i64 (S92.seq))] : List Value) ++ hc S92.h ++ ([(.int .u64 (S92.t)), (.int .i64 (S92.sb)), (.int .i64 (S92.sm))] : List Value)) : List Value) = [S92].flatMap Z0o by kernel_rfl)])
   have S101 := H100.pick [4, 5, 6, 7, 8, 9] (by decide)
   refine hK96 _ _ S101 ?_
   clear hK96 K96
   refine Z7r 10 rfl (by kernel_rfl) (Z0 rfl) rfl (fun K102 hK102 => ?_)
   refine Z17 (T := 51) (e := 101) (size := 38) (bytes := 80) rfl H100 (by kernel_rfl) 10 11 rfl rfl rfl rfl (Z0Z Z0o Z4s [S92]) (by omega) (by omega) ?_
   intro v103 w104 (H105 : Sat w [Z1 b 110 ([(.map (some mb))] : List Value), ZA mb Z7 (Value.int .i64) (Zh L93), Z1 r 98 ([(.slice a90 L93.length c91)] : List Value), Zd 114 2 (.slice a90 L93.length c91) L93.length (L93.flatMap Z1b), Z5 w (ZI (Z0A b mb r a c L)).fp, Z1 b2 40 ([(.pointer (some ⟨b, 0, none⟩)), (.pointer (some ⟨r, 0, none⟩))] : List Value), Z1 b6 36 ([(.int .i64 (f)), (.int .i64 (cn))] : List Value), Z1 b10 50 (([(.int .i64 (x.cl)), (.int .i64 (x.seq))] : List Value) ++ hc x.h ++ ([(.int .i64 (x.len)), (.int .i64 (x.sb)), (.int .i64 (x.sm))] : List Value)), Z1 b14 53 (([(.int .i64 (0)), (.int .i64 (0))] : List Value) ++ hc Zt ++ ([(.int .i64 (0)), (.int .i64 (0)), (.int .i64 (0)), (.slice none 0 0)] : List Value)), Z1 b18 53 (([(.int .i64 (x.cl)), (.int .i64 (x.seq))] : List Value) ++ hc x.h ++ ([(.int .i64 (x.len)), (.int .i64 (x.sb)), (.int .i64 (x.sm)), (.slice da D.length dc)] : List Value)), Zd 101 38 v103 (D.length + 1) ((D.flatMap Z0o) ++ ([S92].flatMap Z0o)), Zd 101 38 (.slice (some ⟨b97, 0, none⟩) 1 1) 1 ([S92].flatMap Z0o)] w104)
   have H108 : Sat w [Z1 b 110 ([(.map (some mb))] : List Value), ZA mb Z7 (Value.int .i64) (Zh L93), Z1 r 98 ([(.slice a90 L93.length c91)] : List Value), Zd 114 2 (.slice a90 L93.length c91) L93.length (L93.flatMap Z1b), Z5 w (ZI (Z0A b mb r a c L)).fp, Z1 b2 40 ([(.pointer (some ⟨b, 0, none⟩)), (.pointer (some ⟨r, 0, none⟩))] : List Value), Z1 b6 36 ([(.int .i64 (f)), (.int .i64 (cn))] : List Value), Z1 b10 50 (([(.int .i64 (x.cl)), (.int .i64 (x.seq))] : List Value) ++ hc x.h ++ ([(.int .i64 (x.len)), (.int .i64 (x.sb)), (.int .i64 (x.sm))] : List Value)), Z1 b14 53 (([(.int .i64 (0)), (.int .i64 (0))] : List Value) ++ hc Zt ++ ([(.int .i64 (0)), (.int .i64 (0)), (.int .i64 (0)), (.slice none 0 0)] : List Value)), Z1 b18 53 (([(.int .i64 (x.cl)), (.int .i64 (x.seq))] : List Value) ++ hc x.h ++ ([(.int .i64 (x.len)), (.int .i64 (x.sb)), (.int .i64 (x.sm)), (.slice da D.length dc)] : List Value)), Zd 101 38 v103 ((D ++ [S92]).length) ((D ++ [S92]).flatMap Z0o), Zd 101 38 (.slice (some ⟨b97, 0, none⟩) 1 1) 1 ([S92].flatMap Z0o)] w104 := H105.cast (by simp only [List.length_append, List.flatMap_append] <;> rfl)
   obtain ⟨a106, c107, rfl⟩ := Z9 (H108.at 10 rfl)
   have S109 := H108.pick [4, 5, 6, 7, 8, 9] (by decide)
   refine hK102 _ _ S109 ?_
   clear hK102 K102
   refine Z0g 11 rfl (by kernel_rfl) (by kernel_rfl) (by kernel_rfl) (fun _ _ _ h => h) S109 (Z0 rfl) rfl (d := 48) (v := (.pointer (some ⟨b18, 37, none⟩))) rfl (fun _ => (by kernel_rfl)) ?_
   refine Z3l 12 (Sat w [Z5 w (ZI (Z0A b mb r a c L)).fp, Z1 b2 40 ([(.pointer (some ⟨b, 0, none⟩)), (.pointer (some ⟨r, 0, none⟩))] : List Value), Z1 b6 36 ([(.int .i64 (f)), (.int .i64 (cn))] : List Value), Z1 b10 50 (([(.int .i64 (x.cl)), (.int .i64 (x.seq))] : List Value) ++ hc x.h ++ ([(.int .i64 (x.len)), (.int .i64 (x.sb)), (.int .i64 (x.sm))] : List Value)), Z1 b14 53 (([(.int .i64 (0)), (.int .i64 (0))] : List Value) ++ hc Zt ++ ([(.int .i64 (0)), (.int .i64 (0)), (.int .i64 (0)), (.slice none 0 0)] : List Value))]) rfl (by kernel_rfl) (Z0 rfl) rfl (fun K110 hK110 => ?_)
   refine Z0q (vs := ([(.slice a106 ((D ++ [S92]).length) c107)] : List Value)) (cs' := (([(.int .i64 (x.cl)), (.int .i64 (x.seq))] : List Value) ++ hc x.h ++ ([(.int .i64 (x.len)), (.int .i64 (x.sb)), (.int .i64 (x.sm)), (.slice a106 ((D ++ [S92]).length) c107)] : List Value))) rfl H108 9 rfl rfl rfl rfl (by kernel_rfl) (Nat.le_of_ble_eq_true (by kernel_rfl)) (Nat.le_of_ble_eq_true (by kernel_rfl)) (by kernel_rfl) (by kernel_rfl) ?_
   intro w111 (H112 : Sat w [Z1 b 110 ([(.map (some mb))] : List Value), ZA mb Z7 (Value.int .i64) (Zh L93), Z1 r 98 ([(.slice a90 L93.length c91)] : List Value), Zd 114 2 (.slice a90 L93.length c91) L93.length (L93.flatMap Z1b), Z5 w (ZI (Z0A b mb r a c L)).fp, Z1 b2 40 ([(.pointer (some ⟨b, 0, none⟩)), (.pointer (some ⟨r, 0, none⟩))] : List Value), Z1 b6 36 ([(.int .i64 (f)), (.int .i64 (cn))] : List Value), Z1 b10 50 (([(.int .i64 (x.cl)), (.int .i64 (x.seq))] : List Value) ++ hc x.h ++ ([(.int .i64 (x.len)), (.int .i64 (x.sb)), (.int .i64 (x.sm))] : List Value)), Z1 b14 53 (([(.int .i64 (0)), (.int .i64 (0))] : List Value) ++ hc Zt ++ ([(.int .i64 (0)), (.int .i64 (0)), (.int .i64 (0)), (.slice none 0 0)] : List Value)), Z1 b18 53 (([(.int .i64 (x.cl)), (.int .i64 (x.seq))] : List Value) ++ hc x.h ++ ([(.int .i64 (x.len)), (.int .i64 (x.sb)), (.int .i64 (x.sm)), (.slice a106 ((D ++ [S92]).length) c107)] : List Value)), Zd 101 38 (.slice a106 ((D ++ [S92]).length) c107) ((D ++ [S92]).length) ((D ++ [S92]).flatMap Z0o), Zd 101 38 (.slice (some ⟨b97, 0, none⟩) 1 1) 1 ([S92].flatMap Z0o)] w111)
   have S114 := H112.pick [4, 5, 6, 7, 8] (by decide)
   refine hK110 _ _ S114 ?_
   clear hK110 K110
   refine Z20 (by kernel_rfl) ?_
   refine ZE ?_
   refine Z4 ?_
   refine Zl ?_
   refine Z3 (Z0 rfl) (d := 25) (v := (.int .i64 ((i : Int)))) rfl (by kernel_rfl) ?_
   refine Z3 (Z0 rfl) (d := 26) (v := (.int .i64 ((i : Int) + 1))) rfl (Z0l (z := (i : Int) + 1) (by kernel_rfl) (IntWalk.i64_in _ (by omega))) ?_
   refine Z3 (Z0 rfl) (d := 12) (v := (.int .i64 ((i : Int) + 1))) rfl (by kernel_rfl) ?_
   refine Zi ?_
   have hok2 : ∀ s ∈ (D ++ [S92]), StB s := fun s hs => by
    rcases List.mem_append.1 hs with h | h
    ·exact hok s h
    ·rw [List.mem_singleton.1 h, hS92]; exact ⟨⟨by show Z0a from_ (f + 1) + (i : Int) ≤ _; omega, hx.1, hx.2.1, by show 0 ≤ (5 : Int); omega, by show (5 : Int) < _; omega⟩, by show Z0a from_ (f + 1) + (i : Int) ≤ _; omega, by have q1 := (Z2l (Z1N L1 (yS (Z0a from_ (f + 1) + (i : Int)) x (5 : Int)))).2; have q2 := Z0W L1 (yS (Z0a from_ (f + 1) + (i : Int)) x (5 : Int)); show Zm _ _ ≤ _; omega⟩
   have H115 : Sat w [Z1 b 110 ([(.map (some mb))] : List Value), ZA mb Z7 (Value.int .i64) (Zh L93), Z1 r 98 ([(.slice a90 L93.length c91)] : List Value), Zd 114 2 (.slice a90 L93.length c91) L93.length (L93.flatMap Z1b), Z5 w (ZI (Z0A b mb r a c L)).fp, Z1 b2 40 ([(.pointer (some ⟨b, 0, none⟩)), (.pointer (some ⟨r, 0, none⟩))] : List Value), Z1 b6 36 ([(.int .i64 (f)), (.int .i64 (cn))] : List Value), Z1 b10 50 (([(.int .i64 (x.cl)), (.int .i64 (x.seq))] : List Value) ++ hc x.h ++ ([(.int .i64 (x.len)), (.int .i64 (x.sb)), (.int .i64 (x.sm))] : List Value)), Z1 b14 53 (([(.int .i64 (0)), (.int .i64 (0))] : List Value) ++ hc Zt ++ ([(.int .i64 (0)), (.int .i64 (0)), (.int .i64 (0)), (.slice none 0 0)] : List Value)), Z1 b18 53 (([(.int .i64 (x.cl)), (.int .i64 (x.seq))] : List Value) ++ hc x.h ++ ([(.int .i64 (x.len)), (.int .i64 (x.sb)), (.int .i64 (x.sm)), (.slice a106 ((D ++ [S92]).length) c107)] : List Value)), Zd 101 38 (.slice a106 ((D ++ [S92]).length) c107) ((D ++ [S92]).length) ((D ++ [S92]).flatMap Z0o)] w111 := H112.pick [0, 1, 2, 3, 4, 5, 6, 7, 8, 9, 10] (by decide)
   refine ZH ?_ _ ⟨(i + 1), a106, c107, (D ++ [S92]), a90, c91, L93, (show ((.int .i64 ((i : Int) + 1)) : Value) = _ by first | rfl | go_num), (by omega), hok2, ndL93, (by omega), (by simp only [List.length_append, List.length_cons, List.length_nil]; omega), (by rw [hL93]; exact hpre.trans (by unfold Zg; split; exact List.prefix_refl _; exact List.prefix_append _ _)), (by rw [hL93, hS92]; exact hrs.step hDl (by omega)), H115, rfl⟩ (by omega)
   exact (Z2 rfl (Z2 rfl (Z2 rfl (Z2 rfl (Z2 rfl (Z2 rfl (Z2 rfl (Z2 rfl (Z2 rfl (Z2 rfl (Z2 rfl (Z2 rfl (Z2 rfl (Z2 rfl (Z2 rfl (Z2 rfl (Z2 rfl (Z2 rfl (Z2 rfl (Z2 rfl (Z2 rfl (Z2 rfl (Z2 rfl (Z2 rfl (Z2 rfl (Z2 rfl (Z2 rfl (Z0S))))))))))))))))))))))))))))
 ·have g116 := of_decide_eq_false b39
  refine Zj 24 (.bool false) (congrArg Value.bool b39) ?_
  have g117 := of_decide_eq_false b39
  refine Z0r rfl ?_
  refine Z2i ?_
  refine Z0Y ?_
  refine Z10 ?_
  refine Z1u ?_
  refine Z4 ?_
  refine Zb ?_
  refine Zl ?_
  refine Z3 (Z0 rfl) (d := 49) (v := (.agg ⟨(([(.int .i64 (x.cl)), (.int .i64 (x.seq))] : List Value) ++ hc x.h ++ ([(.int .i64 (x.len)), (.int .i64 (x.sb)), (.int .i64 (x.sm)), (.slice da D.length dc)] : List Value))⟩)) rfl (Zs (vs := (([(.int .i64 (x.cl)), (.int .i64 (x.seq))] : List Value) ++ hc x.h ++ ([(.int .i64 (x.len)), (.int .i64 (x.sb)), (.int .i64 (x.sm)), (.slice da D.length dc)] : List Value))) rfl (by kernel_rfl) (by kernel_rfl) (by exact Nat.le_of_ble_eq_true (by kernel_rfl)) (H37.at 9 rfl) (by kernel_rfl)) ?_
  refine ZQ (Z0 rfl) (fun K118 hK118 => ?_)
  refine Z0q (vs := (([(.int .i64 (x.cl)), (.int .i64 (x.seq))] : List Value) ++ hc x.h ++ ([(.int .i64 (x.len)), (.int .i64 (x.sb)), (.int .i64 (x.sm)), (.slice da D.length dc)] : List Value))) (cs' := (([(.int .i64 (x.cl)), (.int .i64 (x.seq))] : List Value) ++ hc x.h ++ ([(.int .i64 (x.len)), (.int .i64 (x.sb)), (.int .i64 (x.sm)), (.slice da D.length dc)] : List Value))) rfl H37 8 rfl rfl rfl rfl (by kernel_rfl) (Nat.le_of_ble_eq_true (by kernel_rfl)) (Nat.le_of_ble_eq_true (by kernel_rfl)) (by kernel_rfl) (by kernel_rfl) ?_
  intro w119 (H120 : Sat w [Z1 b 110 ([(.map (some mb))] : List Value), ZA mb Z7 (Value.int .i64) (Zh L1), Z1 r 98 ([(.slice ra L1.length rc)] : List Value), Zd 114 2 (.slice ra L1.length rc) L1.length (L1.flatMap Z1b), Z5 w (ZI (Z0A b mb r a c L)).fp, Z1 b2 40 ([(.pointer (some ⟨b, 0, none⟩)), (.pointer (some ⟨r, 0, none⟩))] : List Value), Z1 b6 36 ([(.int .i64 (f)), (.int .i64 (cn))] : List Value), Z1 b10 50 (([(.int .i64 (x.cl)), (.int .i64 (x.seq))] : List Value) ++ hc x.h ++ ([(.int .i64 (x.len)), (.int .i64 (x.sb)), (.int .i64 (x.sm))] : List Value)), Z1 b14 53 (([(.int .i64 (x.cl)), (.int .i64 (x.seq))] : List Value) ++ hc x.h ++ ([(.int .i64 (x.len)), (.int .i64 (x.sb)), (.int .i64 (x.sm)), (.slice da D.length dc)] : List Value)), Z1 b18 53 (([(.int .i64 (x.cl)), (.int .i64 (x.seq))] : List Value) ++ hc x.h ++ ([(.int .i64 (x.len)), (.int .i64 (x.sb)), (.int .i64 (x.sm)), (.slice da D.length dc)] : List Value)), Zd 101 38 (.slice da D.length dc) D.length (D.flatMap Z0o)] w119)
  refine hK118 _ _ ?_
  clear hK118 K118
  refine Zi ?_
  refine Z4 ?_
  refine ZY ?_
  refine Z1i rfl (Z0e (vs := (([(.int .i64 (x.cl)), (.int .i64 (x.seq))] : List Value) ++ hc x.h ++ ([(.int .i64 (x.len)), (.int .i64 (x.sb)), (.int .i64 (x.sm)), (.slice da D.length dc)] : List Value))) rfl (by kernel_rfl) (by kernel_rfl) (by exact Nat.le_of_ble_eq_true (by kernel_rfl)) (H120.at 8 rfl) (by kernel_rfl)) ?_
  exact ⟨ra, rc, L1, da, dc, D, rfl, by omega, hok, hnd, by omega, hpre, hrs, H120.pick [0, 1, 2, 3, 10, 4] (by decide)⟩
end Go.Proofs.YtoaifondpohniaaGreat
