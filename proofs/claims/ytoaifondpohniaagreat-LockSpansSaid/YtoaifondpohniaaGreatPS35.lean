/- WHAT IS PROVED: contracts and plain laws of Com11, Flats. Conditions: stated with each. -/
import Derived.Test.YtoaifondpohniaaGreatPS12
import Derived.Test.YtoaifondpohniaaGreatPS16
import Derived.Test.YtoaifondpohniaaGreatPS33
set_option maxHeartbeats 4000000
set_option maxRecDepth 100000
namespace Go.Proofs.YtoaifondpohniaaGreat
open Go.RowKit
theorem Z1Z (w : World) (b mb r : Nat) (a : Option Addr) (c : Nat) (L Lr : List Signed) (hB : (ZH [Z3 b 110 [.map (some mb)], ZC mb Za (Value.int .i64) (Zq L), Z3 r 98 [.slice a (Lr).length c], Zb 114 2 (.slice a (Lr).length c) (Lr).length ((Lr).flatMap Z0q)]).ok w) (cl seq : Int) (hcl : 0 ≤ cl ∧ cl ≤ 1000000) (hsq : seq ≤ 9223372036854775807) (hL : L.length ≤ 100000) (hLr : Lr.length ≤ 100000) (hn : L.Nodup) (hnr : Lr.Nodup) :
  Calls Tryz.prog 10 #[(.agg ⟨([(.pointer (some ⟨b, 0, none⟩)), (.pointer (some ⟨r, 0, none⟩))] : List Value)⟩), (.agg ⟨([(.int .i64 (cl)), (.int .i64 (seq))] : List Value)⟩), (.slice none 0 0)] w fun e w' => ∃ a' c', e = .returned (.agg ⟨Z2q (mkC L cl seq Zo [])⟩) ∧ Sat w [Z3 b 110 [.map (some mb)], ZC mb Za (Value.int .i64) (Zq (Zg L (yC cl seq Zo []))), Z3 r 98 [.slice a' (Zg Lr (yC cl seq Zo [])).length c'], Zb 114 2 (.slice a' (Zg Lr (yC cl seq Zo [])).length c') (Zg Lr (yC cl seq Zo [])).length ((Zg Lr (yC cl seq Zo [])).flatMap Z0q), Z6 w (ZH [Z3 b 110 [.map (some mb)], ZC mb Za (Value.int .i64) (Zq L), Z3 r 98 [.slice a (Lr).length c], Zb 114 2 (.slice a (Lr).length c) (Lr).length ((Lr).flatMap Z0q)]).fp] w' := by
 have hL0 : (1000 + cl) ≤ 9223372036854775807 := by omega
 have H : Sat w [Z3 b 110 ([(.map (some mb))] : List Value), ZC mb Za (Value.int .i64) (Zq L), Z3 r 98 ([(.slice a Lr.length c)] : List Value), Zb 114 2 (.slice a Lr.length c) Lr.length (Lr.flatMap Z0q), Z6 w (ZH [Z3 b 110 [.map (some mb)], ZC mb Za (Value.int .i64) (Zq L), Z3 r 98 [.slice a (Lr).length c], Zb 114 2 (.slice a (Lr).length c) (Lr).length ((Lr).flatMap Z0q)]).fp] w := Sat.start _ hB
 refine ZE Tryz.func10 rfl 24 rfl (Nat.le_of_ble_eq_true rfl) ?_
 refine Zc ?_
 refine Zp ?_
 refine ZA (Z1 rfl) (fun K1 hK1 => ?_)
 refine Z0H (vs := ([(.pointer (some ⟨b, 0, none⟩)), (.pointer (some ⟨r, 0, none⟩))] : List Value)) rfl H rfl rfl ?_
 intro b2 w3 (H4 : Sat w [Z3 b 110 ([(.map (some mb))] : List Value), ZC mb Za (Value.int .i64) (Zq L), Z3 r 98 ([(.slice a Lr.length c)] : List Value), Zb 114 2 (.slice a Lr.length c) Lr.length (Lr.flatMap Z0q), Z6 w (ZH [Z3 b 110 [.map (some mb)], ZC mb Za (Value.int .i64) (Zq L), Z3 r 98 [.slice a (Lr).length c], Zb 114 2 (.slice a (Lr).length c) (Lr).length ((Lr).flatMap Z0q)]).fp, Z3 b2 40 ([(.pointer (some ⟨b, 0, none⟩)), (.pointer (some ⟨r, 0, none⟩))] : List Value)] w3)
 refine hK1 _ _ ?_
 clear hK1 K1
 refine ZA (Z1 rfl) (fun K5 hK5 => ?_)
 refine Z0H (vs := ([(.int .i64 (cl)), (.int .i64 (seq))] : List Value)) rfl H4 rfl rfl ?_
 intro b6 w7 (H8 : Sat w [Z3 b 110 ([(.map (some mb))] : List Value), ZC mb Za (Value.int .i64) (Zq L), Z3 r 98 ([(.slice a Lr.length c)] : List Value), Zb 114 2 (.slice a Lr.length c) Lr.length (Lr.flatMap Z0q), Z6 w (ZH [Z3 b 110 [.map (some mb)], ZC mb Za (Value.int .i64) (Zq L), Z3 r 98 [.slice a (Lr).length c], Zb 114 2 (.slice a (Lr).length c) (Lr).length ((Lr).flatMap Z0q)]).fp, Z3 b2 40 ([(.pointer (some ⟨b, 0, none⟩)), (.pointer (some ⟨r, 0, none⟩))] : List Value), Z3 b6 24 ([(.int .i64 (cl)), (.int .i64 (seq))] : List Value)] w7)
 refine hK5 _ _ ?_
 clear hK5 K5
 refine ZA (Z1 rfl) (fun K9 hK9 => ?_)
 refine Z0e (zs := (([(.int .i64 (0)), (.int .i64 (0))] : List Value) ++ hc Zo ++ ([(.int .i64 (0)), (.int .i64 (0)), (.int .i64 (0))] : List Value))) (z := (.agg ⟨(([(.int .i64 (0)), (.int .i64 (0))] : List Value) ++ hc Zo ++ ([(.int .i64 (0)), (.int .i64 (0)), (.int .i64 (0))] : List Value))⟩)) rfl H8 (by kernel_rfl) (by kernel_rfl) ?_
 intro b10 w11 (H12 : Sat w [Z3 b 110 ([(.map (some mb))] : List Value), ZC mb Za (Value.int .i64) (Zq L), Z3 r 98 ([(.slice a Lr.length c)] : List Value), Zb 114 2 (.slice a Lr.length c) Lr.length (Lr.flatMap Z0q), Z6 w (ZH [Z3 b 110 [.map (some mb)], ZC mb Za (Value.int .i64) (Zq L), Z3 r 98 [.slice a (Lr).length c], Zb 114 2 (.slice a (Lr).length c) (Lr).length ((Lr).flatMap Z0q)]).fp, Z3 b2 40 ([(.pointer (some ⟨b, 0, none⟩)), (.pointer (some ⟨r, 0, none⟩))] : List Value), Z3 b6 24 ([(.int .i64 (cl)), (.int .i64 (seq))] : List Value), Z3 b10 50 (([(.int .i64 (0)), (.int .i64 (0))] : List Value) ++ hc Zo ++ ([(.int .i64 (0)), (.int .i64 (0)), (.int .i64 (0))] : List Value))] w11)
 refine hK9 _ _ ?_
 clear hK9 K9
 refine Zm ?_
 refine Z4 ?_
 refine Zc ?_
 refine Zp ?_
 refine Z2 (Z1 rfl) (d := 8) (v := (.pointer (some ⟨b2, 1, none⟩))) rfl (by kernel_rfl) ?_
 refine Z2 (Z1 rfl) (d := 9) (v := (.pointer (some ⟨r, 0, none⟩))) rfl (Zi rfl (by kernel_rfl) (H12.cell 5 rfl rfl)) ?_
 refine Z2 (Z1 rfl) (d := 10) (v := (.agg ⟨([(.int .i64 (cl)), (.int .i64 (seq))] : List Value)⟩)) rfl (ZB (vs := ([(.int .i64 (cl)), (.int .i64 (seq))] : List Value)) rfl (by kernel_rfl) (by kernel_rfl) (by exact Nat.le_of_ble_eq_true (by kernel_rfl)) (H12.at 6 rfl) (by kernel_rfl)) ?_
 refine Z2 (Z1 rfl) (d := 11) (v := (.agg ⟨(hc Zo)⟩)) rfl (by kernel_rfl) ?_
 refine Z2 (Z1 rfl) (d := 12) (v := (.slice none 0 0)) rfl (by kernel_rfl) ?_
 refine ZA (Z1 rfl) (fun K13 hK13 => ?_)
 refine Zv (d := 13) rfl (by kernel_rfl) (Z6g w11 r a c Lr (H12.fin [2, 3] (by decide) rfl) cl seq Zo none 0 [] ListAt.nil (fun h0 => absurd h0 (Nat.lt_irrefl 0)) (Nat.zero_le _) (by omega) hsq hLr hnr) ?_
 rintro _ w14 ⟨a16, c17, rfl, T15⟩
 have H18 : Sat w [Z3 b 110 ([(.map (some mb))] : List Value), ZC mb Za (Value.int .i64) (Zq L), Z3 r 98 ([(.slice a16 ((Zg Lr (yC cl seq Zo [])).length) c17)] : List Value), Zb 114 2 (.slice a16 ((Zg Lr (yC cl seq Zo [])).length) c17) ((Zg Lr (yC cl seq Zo [])).length) ((Zg Lr (yC cl seq Zo [])).flatMap Z0q), Z6 w (ZH [Z3 b 110 [.map (some mb)], ZC mb Za (Value.int .i64) (Zq L), Z3 r 98 [.slice a (Lr).length c], Zb 114 2 (.slice a (Lr).length c) (Lr).length ((Lr).flatMap Z0q)]).fp, Z3 b2 40 ([(.pointer (some ⟨b, 0, none⟩)), (.pointer (some ⟨r, 0, none⟩))] : List Value), Z3 b6 24 ([(.int .i64 (cl)), (.int .i64 (seq))] : List Value), Z3 b10 50 (([(.int .i64 (0)), (.int .i64 (0))] : List Value) ++ hc Zo ++ ([(.int .i64 (0)), (.int .i64 (0)), (.int .i64 (0))] : List Value))] w14 := (Sat.turnL (L' := [Z3 r 98 ([(.slice a16 ((Zg Lr (yC cl seq Zo [])).length) c17)] : List Value), Zb 114 2 (.slice a16 ((Zg Lr (yC cl seq Zo [])).length) c17) ((Zg Lr (yC cl seq Zo [])).length) ((Zg Lr (yC cl seq Zo [])).flatMap Z0q)]) (R := [Z3 b 110 ([(.map (some mb))] : List Value), ZC mb Za (Value.int .i64) (Zq L), Z6 w (ZH [Z3 b 110 [.map (some mb)], ZC mb Za (Value.int .i64) (Zq L), Z3 r 98 [.slice a (Lr).length c], Zb 114 2 (.slice a (Lr).length c) (Lr).length ((Lr).flatMap Z0q)]).fp, Z3 b2 40 ([(.pointer (some ⟨b, 0, none⟩)), (.pointer (some ⟨r, 0, none⟩))] : List Value), Z3 b6 24 ([(.int .i64 (cl)), (.int .i64 (seq))] : List Value), Z3 b10 50 (([(.int .i64 (0)), (.int .i64 (0))] : List Value) ++ hc Zo ++ ([(.int .i64 (0)), (.int .i64 (0)), (.int .i64 (0))] : List Value))]) H12 [2, 3] [0, 1, 4, 5, 6, 7] (by decide) (by kernel_rfl) rfl T15).pick [2, 3, 0, 1, 4, 5, 6, 7] (by decide)
 refine ⟨_, rfl, ?_⟩
 refine hK13 _ _ ?_
 clear hK13 K13
 refine ZA (Z1 rfl) (fun K19 hK19 => ?_)
 refine Z0e (zs := (([(.int .i64 (0)), (.int .i64 (0))] : List Value) ++ hc Zo ++ ([(.int .i64 (0)), (.int .i64 (0)), (.int .i64 (0))] : List Value))) (z := (.agg ⟨(([(.int .i64 (0)), (.int .i64 (0))] : List Value) ++ hc Zo ++ ([(.int .i64 (0)), (.int .i64 (0)), (.int .i64 (0))] : List Value))⟩)) rfl H18 (by kernel_rfl) (by kernel_rfl) ?_
 intro b20 w21 (H22 : Sat w [Z3 b 110 ([(.map (some mb))] : List Value), ZC mb Za (Value.int .i64) (Zq L), Z3 r 98 ([(.slice a16 ((Zg Lr (yC cl seq Zo [])).length) c17)] : List Value), Zb 114 2 (.slice a16 ((Zg Lr (yC cl seq Zo [])).length) c17) ((Zg Lr (yC cl seq Zo [])).length) ((Zg Lr (yC cl seq Zo [])).flatMap Z0q), Z6 w (ZH [Z3 b 110 [.map (some mb)], ZC mb Za (Value.int .i64) (Zq L), Z3 r 98 [.slice a (Lr).length c], Zb 114 2 (.slice a (Lr).length c) (Lr).length ((Lr).flatMap Z0q)]).fp, Z3 b2 40 ([(.pointer (some ⟨b, 0, none⟩)), (.pointer (some ⟨r, 0, none⟩))] : List Value), Z3 b6 24 ([(.int .i64 (cl)), (.int .i64 (seq))] : List Value), Z3 b10 50 (([(.int .i64 (0)), (.int .i64 (0))] : List Value) ++ hc Zo ++ ([(.int .i64 (0)), (.int .i64 (0)), (.int .i64 (0))] : List Value)), Z3 b20 50 (([(.int .i64 (0)), (.int .i64 (0))] : List Value) ++ hc Zo ++ ([(.int .i64 (0)), (.int .i64 (0)), (.int .i64 (0))] : List Value))] w21)
 refine hK19 _ _ ?_
 clear hK19 K19
 refine ZA (Z1 rfl) (fun K23 hK23 => ?_)
 refine ZU (vs := (([(.int .i64 ((mkC Lr cl seq Zo []).cl)), (.int .i64 ((mkC Lr cl seq Zo []).seq))] : List Value) ++ hc (mkC Lr cl seq Zo []).h ++ ([(.int .i64 ((mkC Lr cl seq Zo []).len)), (.int .i64 ((mkC Lr cl seq Zo []).sb)), (.int .i64 ((mkC Lr cl seq Zo []).sm))] : List Value))) (cs' := (([(.int .i64 ((mkC Lr cl seq Zo []).cl)), (.int .i64 ((mkC Lr cl seq Zo []).seq))] : List Value) ++ hc (mkC Lr cl seq Zo []).h ++ ([(.int .i64 ((mkC Lr cl seq Zo []).len)), (.int .i64 ((mkC Lr cl seq Zo []).sb)), (.int .i64 ((mkC Lr cl seq Zo []).sm))] : List Value))) rfl H22 8 rfl rfl rfl rfl (by kernel_rfl) (Nat.le_of_ble_eq_true (by kernel_rfl)) (Nat.le_of_ble_eq_true (by kernel_rfl)) (by kernel_rfl) (by kernel_rfl) ?_
 intro w24 (H25 : Sat w [Z3 b 110 ([(.map (some mb))] : List Value), ZC mb Za (Value.int .i64) (Zq L), Z3 r 98 ([(.slice a16 ((Zg Lr (yC cl seq Zo [])).length) c17)] : List Value), Zb 114 2 (.slice a16 ((Zg Lr (yC cl seq Zo [])).length) c17) ((Zg Lr (yC cl seq Zo [])).length) ((Zg Lr (yC cl seq Zo [])).flatMap Z0q), Z6 w (ZH [Z3 b 110 [.map (some mb)], ZC mb Za (Value.int .i64) (Zq L), Z3 r 98 [.slice a (Lr).length c], Zb 114 2 (.slice a (Lr).length c) (Lr).length ((Lr).flatMap Z0q)]).fp, Z3 b2 40 ([(.pointer (some ⟨b, 0, none⟩)), (.pointer (some ⟨r, 0, none⟩))] : List Value), Z3 b6 24 ([(.int .i64 (cl)), (.int .i64 (seq))] : List Value), Z3 b10 50 (([(.int .i64 (0)), (.int .i64 (0))] : List Value) ++ hc Zo ++ ([(.int .i64 (0)), (.int .i64 (0)), (.int .i64 (0))] : List Value)), Z3 b20 50 (([(.int .i64 ((mkC Lr cl seq Zo []).cl)), (.int .i64 ((mkC Lr cl seq Zo []).seq))] : List Value) ++ hc (mkC Lr cl seq Zo []).h ++ ([(.int .i64 ((mkC Lr cl seq Zo []).len)), (.int .i64 ((mkC Lr cl seq Zo []).sb)), (.int .i64 ((mkC Lr cl seq Zo []).sm))] : List Value))] w24)
 refine hK23 _ _ ?_
 clear hK23 K23
 refine Zm ?_
 refine Z4 ?_
 refine Zc ?_
 refine Z1f H25 [Z3 r 98 ([(.slice a16 ((Zg Lr (yC cl seq Zo [])).length) c17)] : List Value), Zb 114 2 (.slice a16 ((Zg Lr (yC cl seq Zo [])).length) c17) ((Zg Lr (yC cl seq Zo [])).length) ((Zg Lr (yC cl seq Zo [])).flatMap Z0q), Z6 w (ZH [Z3 b 110 [.map (some mb)], ZC mb Za (Value.int .i64) (Zq L), Z3 r 98 [.slice a (Lr).length c], Zb 114 2 (.slice a (Lr).length c) (Lr).length ((Lr).flatMap Z0q)]).fp, Z3 b2 40 ([(.pointer (some ⟨b, 0, none⟩)), (.pointer (some ⟨r, 0, none⟩))] : List Value), Z3 b6 24 ([(.int .i64 (cl)), (.int .i64 (seq))] : List Value), Z3 b10 50 (([(.int .i64 (0)), (.int .i64 (0))] : List Value) ++ hc Zo ++ ([(.int .i64 (0)), (.int .i64 (0)), (.int .i64 (0))] : List Value)), Z3 b20 50 (([(.int .i64 ((mkC Lr cl seq Zo []).cl)), (.int .i64 ((mkC Lr cl seq Zo []).seq))] : List Value) ++ hc (mkC Lr cl seq Zo []).h ++ ([(.int .i64 ((mkC Lr cl seq Zo []).len)), (.int .i64 ((mkC Lr cl seq Zo []).sb)), (.int .i64 ((mkC Lr cl seq Zo []).sm))] : List Value))] [9] 10 rfl (by kernel_rfl) (fun Hx => (Hx.pick [2, 3, 4, 5, 6, 7, 8] (by decide))) ?_
 intro w27 H28 S29
 refine ZP 0 rfl (by kernel_rfl) (by kernel_rfl) (by kernel_rfl) (fun _ _ _ h => h) S29 (Z1 rfl) rfl (d := 14) (v := (.pointer (some ⟨b2, 0, none⟩))) rfl (fun _ => (by kernel_rfl)) ?_
 refine Z1Y 1 rfl (by kernel_rfl) (by kernel_rfl) (by kernel_rfl) (fun _ _ _ h => h) S29 (Z1 rfl) rfl (by kernel_rfl) (d := 15) (v := (.pointer (some ⟨b, 0, none⟩))) rfl (fun _ H' => (Zi rfl (by kernel_rfl) (H'.cell 3 rfl rfl))) ?_
 refine ZP 2 rfl (by kernel_rfl) (by kernel_rfl) (by kernel_rfl) (fun _ _ _ h => h) S29 (Z1 rfl) rfl (d := 16) (v := (.pointer (some ⟨b6, 0, none⟩))) rfl (fun _ => (by kernel_rfl)) ?_
 refine Z1Y 3 rfl (by kernel_rfl) (by kernel_rfl) (by kernel_rfl) (fun _ _ _ h => h) S29 (Z1 rfl) rfl (by kernel_rfl) (d := 17) (v := (.int .i64 (cl))) rfl (fun _ H' => (Zi rfl (by kernel_rfl) (H'.cell 4 rfl rfl))) ?_
 refine ZP 4 rfl (by kernel_rfl) (by kernel_rfl) (by kernel_rfl) (fun _ _ _ h => h) S29 (Z1 rfl) rfl (d := 18) (v := (.int .i64 (1000 + cl))) rfl (fun _ => (Z04 (z := 1000 + cl) (by kernel_rfl) (IntWalk.i64_in _ (by omega)))) ?_
 refine Z1Y 5 rfl (by kernel_rfl) (by kernel_rfl) (by kernel_rfl) (fun _ _ _ h => h) S29 (Z1 rfl) rfl (by kernel_rfl) (d := 19) (v := (.agg ⟨(([(.int .i64 ((mkC Lr cl seq Zo []).cl)), (.int .i64 ((mkC Lr cl seq Zo []).seq))] : List Value) ++ hc (mkC Lr cl seq Zo []).h ++ ([(.int .i64 ((mkC Lr cl seq Zo []).len)), (.int .i64 ((mkC Lr cl seq Zo []).sb)), (.int .i64 ((mkC Lr cl seq Zo []).sm))] : List Value))⟩)) rfl (fun _ H' => (ZB (vs := (([(.int .i64 ((mkC Lr cl seq Zo []).cl)), (.int .i64 ((mkC Lr cl seq Zo []).seq))] : List Value) ++ hc (mkC Lr cl seq Zo []).h ++ ([(.int .i64 ((mkC Lr cl seq Zo []).len)), (.int .i64 ((mkC Lr cl seq Zo []).sb)), (.int .i64 ((mkC Lr cl seq Zo []).sm))] : List Value))) rfl (by kernel_rfl) (by kernel_rfl) (by exact Nat.le_of_ble_eq_true (by kernel_rfl)) (H'.at 6 rfl) (by kernel_rfl))) ?_
 refine Z5l 6 rfl (by kernel_rfl) (Z1 rfl) rfl (fun K30 hK30 => ?_)
 refine Zv (d := 20) rfl (by kernel_rfl) (Z1z w27 (mkC Lr cl seq Zo []) ⟨by show cl ≤ _; omega, hsq, by show ((0 : Nat) : Int) ≤ _; omega⟩) ?_
 rintro _ w31 ⟨u32, rfl, k33, p34, q35⟩
 have H36 : Sat w [Z3 b 110 ([(.map (some mb))] : List Value), ZC mb Za (Value.int .i64) (Zq L), Z3 r 98 ([(.slice a16 ((Zg Lr (yC cl seq Zo [])).length) c17)] : List Value), Zb 114 2 (.slice a16 ((Zg Lr (yC cl seq Zo [])).length) c17) ((Zg Lr (yC cl seq Zo [])).length) ((Zg Lr (yC cl seq Zo [])).flatMap Z0q), Z6 w (ZH [Z3 b 110 [.map (some mb)], ZC mb Za (Value.int .i64) (Zq L), Z3 r 98 [.slice a (Lr).length c], Zb 114 2 (.slice a (Lr).length c) (Lr).length ((Lr).flatMap Z0q)]).fp, Z3 b2 40 ([(.pointer (some ⟨b, 0, none⟩)), (.pointer (some ⟨r, 0, none⟩))] : List Value), Z3 b6 24 ([(.int .i64 (cl)), (.int .i64 (seq))] : List Value), Z3 b10 50 (([(.int .i64 (0)), (.int .i64 (0))] : List Value) ++ hc Zo ++ ([(.int .i64 (0)), (.int .i64 (0)), (.int .i64 (0))] : List Value)), Z3 b20 50 (([(.int .i64 ((mkC Lr cl seq Zo []).cl)), (.int .i64 ((mkC Lr cl seq Zo []).seq))] : List Value) ++ hc (mkC Lr cl seq Zo []).h ++ ([(.int .i64 ((mkC Lr cl seq Zo []).len)), (.int .i64 ((mkC Lr cl seq Zo []).sb)), (.int .i64 ((mkC Lr cl seq Zo []).sm))] : List Value)), Zb 5 1 u32 ((Zk (mkC Lr cl seq Zo [])).length) ((Zk (mkC Lr cl seq Zo [])).flatMap Zr)] w31 := H28.addU p34 k33 q35
 obtain ⟨a37, c38, rfl⟩ := Zl (H36.at 9 rfl)
 refine ⟨_, rfl, ?_⟩
 have S39 := H36.pick [2, 3, 4, 5, 6, 7, 8] (by decide)
 refine hK30 _ _ S39 ?_
 clear hK30 K30
 refine Z5l 7 rfl (by kernel_rfl) (Z1 rfl) rfl (fun K40 hK40 => ?_)
 refine Zv (d := 21) rfl (by kernel_rfl) (Z1N w31 b mb L (.slice a37 ((Zk (mkC Lr cl seq Zo [])).length) c38) (Zk (mkC Lr cl seq Zo [])) (H36.fin [0, 1, 9] (by decide) rfl) (by omega) (1000 + cl)) ?_
 rintro _ w41 ⟨rfl, T42⟩
 have H43 : Sat w [Z3 b 110 ([(.map (some mb))] : List Value), ZC mb Za (Value.int .i64) (Zq (Zg L (⟨1000 + cl, (Zk (mkC Lr cl seq Zo []))⟩ : Signed))), Z3 r 98 ([(.slice a16 ((Zg Lr (yC cl seq Zo [])).length) c17)] : List Value), Zb 114 2 (.slice a16 ((Zg Lr (yC cl seq Zo [])).length) c17) ((Zg Lr (yC cl seq Zo [])).length) ((Zg Lr (yC cl seq Zo [])).flatMap Z0q), Z6 w (ZH [Z3 b 110 [.map (some mb)], ZC mb Za (Value.int .i64) (Zq L), Z3 r 98 [.slice a (Lr).length c], Zb 114 2 (.slice a (Lr).length c) (Lr).length ((Lr).flatMap Z0q)]).fp, Z3 b2 40 ([(.pointer (some ⟨b, 0, none⟩)), (.pointer (some ⟨r, 0, none⟩))] : List Value), Z3 b6 24 ([(.int .i64 (cl)), (.int .i64 (seq))] : List Value), Z3 b10 50 (([(.int .i64 (0)), (.int .i64 (0))] : List Value) ++ hc Zo ++ ([(.int .i64 (0)), (.int .i64 (0)), (.int .i64 (0))] : List Value)), Z3 b20 50 (([(.int .i64 ((mkC Lr cl seq Zo []).cl)), (.int .i64 ((mkC Lr cl seq Zo []).seq))] : List Value) ++ hc (mkC Lr cl seq Zo []).h ++ ([(.int .i64 ((mkC Lr cl seq Zo []).len)), (.int .i64 ((mkC Lr cl seq Zo []).sb)), (.int .i64 ((mkC Lr cl seq Zo []).sm))] : List Value)), Zb 5 1 (.slice a37 ((Zk (mkC Lr cl seq Zo [])).length) c38) ((Zk (mkC Lr cl seq Zo [])).length) ((Zk (mkC Lr cl seq Zo [])).flatMap Zr)] w41 := (Sat.turnL (L' := [Z3 b 110 ([(.map (some mb))] : List Value), ZC mb Za (Value.int .i64) (Zq (Zg L (⟨1000 + cl, (Zk (mkC Lr cl seq Zo []))⟩ : Signed))), Zb 5 1 (.slice a37 ((Zk (mkC Lr cl seq Zo [])).length) c38) ((Zk (mkC Lr cl seq Zo [])).length) ((Zk (mkC Lr cl seq Zo [])).flatMap Zr)]) (R := [Z3 r 98 ([(.slice a16 ((Zg Lr (yC cl seq Zo [])).length) c17)] : List Value), Zb 114 2 (.slice a16 ((Zg Lr (yC cl seq Zo [])).length) c17) ((Zg Lr (yC cl seq Zo [])).length) ((Zg Lr (yC cl seq Zo [])).flatMap Z0q), Z6 w (ZH [Z3 b 110 [.map (some mb)], ZC mb Za (Value.int .i64) (Zq L), Z3 r 98 [.slice a (Lr).length c], Zb 114 2 (.slice a (Lr).length c) (Lr).length ((Lr).flatMap Z0q)]).fp, Z3 b2 40 ([(.pointer (some ⟨b, 0, none⟩)), (.pointer (some ⟨r, 0, none⟩))] : List Value), Z3 b6 24 ([(.int .i64 (cl)), (.int .i64 (seq))] : List Value), Z3 b10 50 (([(.int .i64 (0)), (.int .i64 (0))] : List Value) ++ hc Zo ++ ([(.int .i64 (0)), (.int .i64 (0)), (.int .i64 (0))] : List Value)), Z3 b20 50 (([(.int .i64 ((mkC Lr cl seq Zo []).cl)), (.int .i64 ((mkC Lr cl seq Zo []).seq))] : List Value) ++ hc (mkC Lr cl seq Zo []).h ++ ([(.int .i64 ((mkC Lr cl seq Zo []).len)), (.int .i64 ((mkC Lr cl seq Zo []).sb)), (.int .i64 ((mkC Lr cl seq Zo []).sm))] : List Value))]) H36 [0, 1, 9] [2, 3, 4, 5, 6, 7, 8] (by decide) (by kernel_rfl) rfl T42).pick [0, 1, 3, 4, 5, 6, 7, 8, 9, 2] (by decide)
 refine ⟨_, rfl, ?_⟩
 have S44 := H43.pick [2, 3, 4, 5, 6, 7, 8] (by decide)
 refine hK40 _ _ S44 ?_
 clear hK40 K40
 refine ZP 8 rfl (by kernel_rfl) (by kernel_rfl) (by kernel_rfl) (fun _ _ _ h => h) S44 (Z1 rfl) rfl (d := 22) (v := (.pointer (some ⟨b20, 35, none⟩))) rfl (fun _ => (by kernel_rfl)) ?_
 refine Z3b 9 (Sat w [Z3 r 98 ([(.slice a16 ((Zg Lr (yC cl seq Zo [])).length) c17)] : List Value), Zb 114 2 (.slice a16 ((Zg Lr (yC cl seq Zo [])).length) c17) ((Zg Lr (yC cl seq Zo [])).length) ((Zg Lr (yC cl seq Zo [])).flatMap Z0q), Z6 w (ZH [Z3 b 110 [.map (some mb)], ZC mb Za (Value.int .i64) (Zq L), Z3 r 98 [.slice a (Lr).length c], Zb 114 2 (.slice a (Lr).length c) (Lr).length ((Lr).flatMap Z0q)]).fp, Z3 b2 40 ([(.pointer (some ⟨b, 0, none⟩)), (.pointer (some ⟨r, 0, none⟩))] : List Value), Z3 b6 24 ([(.int .i64 (cl)), (.int .i64 (seq))] : List Value), Z3 b10 50 (([(.int .i64 (0)), (.int .i64 (0))] : List Value) ++ hc Zo ++ ([(.int .i64 (0)), (.int .i64 (0)), (.int .i64 (0))] : List Value))]) rfl (by kernel_rfl) (Z1 rfl) rfl (fun K45 hK45 => ?_)
 refine ZU (vs := ([(.int .i64 (1000 + cl)), (.int .i64 (Zt (Zg L (⟨1000 + cl, (Zk (mkC Lr cl seq Zo []))⟩ : Signed)) (⟨1000 + cl, (Zk (mkC Lr cl seq Zo []))⟩ : Signed)))] : List Value)) (cs' := (([(.int .i64 ((mkC Lr cl seq Zo []).cl)), (.int .i64 ((mkC Lr cl seq Zo []).seq))] : List Value) ++ hc (mkC Lr cl seq Zo []).h ++ ([(.int .i64 ((mkC Lr cl seq Zo []).len)), (.int .i64 (1000 + cl)), (.int .i64 (Zt (Zg L (⟨1000 + cl, (Zk (mkC Lr cl seq Zo []))⟩ : Signed)) (⟨1000 + cl, (Zk (mkC Lr cl seq Zo []))⟩ : Signed)))] : List Value))) rfl H43 8 rfl rfl rfl rfl (by kernel_rfl) (Nat.le_of_ble_eq_true (by kernel_rfl)) (Nat.le_of_ble_eq_true (by kernel_rfl)) (by kernel_rfl) (by kernel_rfl) ?_
 intro w46 (H47 : Sat w [Z3 b 110 ([(.map (some mb))] : List Value), ZC mb Za (Value.int .i64) (Zq (Zg L (⟨1000 + cl, (Zk (mkC Lr cl seq Zo []))⟩ : Signed))), Z3 r 98 ([(.slice a16 ((Zg Lr (yC cl seq Zo [])).length) c17)] : List Value), Zb 114 2 (.slice a16 ((Zg Lr (yC cl seq Zo [])).length) c17) ((Zg Lr (yC cl seq Zo [])).length) ((Zg Lr (yC cl seq Zo [])).flatMap Z0q), Z6 w (ZH [Z3 b 110 [.map (some mb)], ZC mb Za (Value.int .i64) (Zq L), Z3 r 98 [.slice a (Lr).length c], Zb 114 2 (.slice a (Lr).length c) (Lr).length ((Lr).flatMap Z0q)]).fp, Z3 b2 40 ([(.pointer (some ⟨b, 0, none⟩)), (.pointer (some ⟨r, 0, none⟩))] : List Value), Z3 b6 24 ([(.int .i64 (cl)), (.int .i64 (seq))] : List Value), Z3 b10 50 (([(.int .i64 (0)), (.int .i64 (0))] : List Value) ++ hc Zo ++ ([(.int .i64 (0)), (.int .i64 (0)), (.int .i64 (0))] : List Value)), Z3 b20 50 (([(.int .i64 ((mkC Lr cl seq Zo []).cl)), (.int .i64 ((mkC Lr cl seq Zo []).seq))] : List Value) ++ hc (mkC Lr cl seq Zo []).h ++ ([(.int .i64 ((mkC Lr cl seq Zo []).len)), (.int .i64 (1000 + cl)), (.int .i64 (Zt (Zg L (⟨1000 + cl, (Zk (mkC Lr cl seq Zo []))⟩ : Signed)) (⟨1000 + cl, (Zk (mkC Lr cl seq Zo []))⟩ : Signed)))] : List Value)), Zb 5 1 (.slice a37 ((Zk (mkC Lr cl seq Zo [])).length) c38) ((Zk (mkC Lr cl seq Zo [])).length) ((Zk (mkC Lr cl seq Zo [])).flatMap Zr)] w46)
 have S49 := H47.pick [2, 3, 4, 5, 6, 7] (by decide)
 refine hK45 _ _ S49 ?_
 clear hK45 K45
 refine Z0C (by kernel_rfl) ?_
 refine Z4 ?_
 refine Zc ?_
 refine Zp ?_
 refine Z2 (Z1 rfl) (d := 23) (v := (.agg ⟨(([(.int .i64 ((mkC Lr cl seq Zo []).cl)), (.int .i64 ((mkC Lr cl seq Zo []).seq))] : List Value) ++ hc (mkC Lr cl seq Zo []).h ++ ([(.int .i64 ((mkC Lr cl seq Zo []).len)), (.int .i64 (1000 + cl)), (.int .i64 (Zt (Zg L (⟨1000 + cl, (Zk (mkC Lr cl seq Zo []))⟩ : Signed)) (⟨1000 + cl, (Zk (mkC Lr cl seq Zo []))⟩ : Signed)))] : List Value))⟩)) rfl (ZB (vs := (([(.int .i64 ((mkC Lr cl seq Zo []).cl)), (.int .i64 ((mkC Lr cl seq Zo []).seq))] : List Value) ++ hc (mkC Lr cl seq Zo []).h ++ ([(.int .i64 ((mkC Lr cl seq Zo []).len)), (.int .i64 (1000 + cl)), (.int .i64 (Zt (Zg L (⟨1000 + cl, (Zk (mkC Lr cl seq Zo []))⟩ : Signed)) (⟨1000 + cl, (Zk (mkC Lr cl seq Zo []))⟩ : Signed)))] : List Value))) rfl (by kernel_rfl) (by kernel_rfl) (by exact Nat.le_of_ble_eq_true (by kernel_rfl)) (H47.at 8 rfl) (by kernel_rfl)) ?_
 refine ZA (Z1 rfl) (fun K50 hK50 => ?_)
 refine ZU (vs := (([(.int .i64 ((mkC Lr cl seq Zo []).cl)), (.int .i64 ((mkC Lr cl seq Zo []).seq))] : List Value) ++ hc (mkC Lr cl seq Zo []).h ++ ([(.int .i64 ((mkC Lr cl seq Zo []).len)), (.int .i64 (1000 + cl)), (.int .i64 (Zt (Zg L (⟨1000 + cl, (Zk (mkC Lr cl seq Zo []))⟩ : Signed)) (⟨1000 + cl, (Zk (mkC Lr cl seq Zo []))⟩ : Signed)))] : List Value))) (cs' := (([(.int .i64 ((mkC Lr cl seq Zo []).cl)), (.int .i64 ((mkC Lr cl seq Zo []).seq))] : List Value) ++ hc (mkC Lr cl seq Zo []).h ++ ([(.int .i64 ((mkC Lr cl seq Zo []).len)), (.int .i64 (1000 + cl)), (.int .i64 (Zt (Zg L (⟨1000 + cl, (Zk (mkC Lr cl seq Zo []))⟩ : Signed)) (⟨1000 + cl, (Zk (mkC Lr cl seq Zo []))⟩ : Signed)))] : List Value))) rfl H47 7 rfl rfl rfl rfl (by kernel_rfl) (Nat.le_of_ble_eq_true (by kernel_rfl)) (Nat.le_of_ble_eq_true (by kernel_rfl)) (by kernel_rfl) (by kernel_rfl) ?_
 intro w51 (H52 : Sat w [Z3 b 110 ([(.map (some mb))] : List Value), ZC mb Za (Value.int .i64) (Zq (Zg L (⟨1000 + cl, (Zk (mkC Lr cl seq Zo []))⟩ : Signed))), Z3 r 98 ([(.slice a16 ((Zg Lr (yC cl seq Zo [])).length) c17)] : List Value), Zb 114 2 (.slice a16 ((Zg Lr (yC cl seq Zo [])).length) c17) ((Zg Lr (yC cl seq Zo [])).length) ((Zg Lr (yC cl seq Zo [])).flatMap Z0q), Z6 w (ZH [Z3 b 110 [.map (some mb)], ZC mb Za (Value.int .i64) (Zq L), Z3 r 98 [.slice a (Lr).length c], Zb 114 2 (.slice a (Lr).length c) (Lr).length ((Lr).flatMap Z0q)]).fp, Z3 b2 40 ([(.pointer (some ⟨b, 0, none⟩)), (.pointer (some ⟨r, 0, none⟩))] : List Value), Z3 b6 24 ([(.int .i64 (cl)), (.int .i64 (seq))] : List Value), Z3 b10 50 (([(.int .i64 ((mkC Lr cl seq Zo []).cl)), (.int .i64 ((mkC Lr cl seq Zo []).seq))] : List Value) ++ hc (mkC Lr cl seq Zo []).h ++ ([(.int .i64 ((mkC Lr cl seq Zo []).len)), (.int .i64 (1000 + cl)), (.int .i64 (Zt (Zg L (⟨1000 + cl, (Zk (mkC Lr cl seq Zo []))⟩ : Signed)) (⟨1000 + cl, (Zk (mkC Lr cl seq Zo []))⟩ : Signed)))] : List Value)), Z3 b20 50 (([(.int .i64 ((mkC Lr cl seq Zo []).cl)), (.int .i64 ((mkC Lr cl seq Zo []).seq))] : List Value) ++ hc (mkC Lr cl seq Zo []).h ++ ([(.int .i64 ((mkC Lr cl seq Zo []).len)), (.int .i64 (1000 + cl)), (.int .i64 (Zt (Zg L (⟨1000 + cl, (Zk (mkC Lr cl seq Zo []))⟩ : Signed)) (⟨1000 + cl, (Zk (mkC Lr cl seq Zo []))⟩ : Signed)))] : List Value)), Zb 5 1 (.slice a37 ((Zk (mkC Lr cl seq Zo [])).length) c38) ((Zk (mkC Lr cl seq Zo [])).length) ((Zk (mkC Lr cl seq Zo [])).flatMap Zr)] w51)
 refine hK50 _ _ ?_
 clear hK50 K50
 refine Zm ?_
 refine Z4 ?_
 refine ZY ?_
 refine Z0O rfl (Z0i (vs := (([(.int .i64 ((mkC Lr cl seq Zo []).cl)), (.int .i64 ((mkC Lr cl seq Zo []).seq))] : List Value) ++ hc (mkC Lr cl seq Zo []).h ++ ([(.int .i64 ((mkC Lr cl seq Zo []).len)), (.int .i64 (1000 + cl)), (.int .i64 (Zt (Zg L (⟨1000 + cl, (Zk (mkC Lr cl seq Zo []))⟩ : Signed)) (⟨1000 + cl, (Zk (mkC Lr cl seq Zo []))⟩ : Signed)))] : List Value))) rfl (by kernel_rfl) (by kernel_rfl) (by exact Nat.le_of_ble_eq_true (by kernel_rfl)) (H52.at 7 rfl) (by kernel_rfl)) ?_
 exact ⟨a16, c17, rfl, H52.pick [0, 1, 2, 3, 4] (by decide)⟩
instance : DecidableEq Zd := fun a b =>
 if h : a.r = b.r ∧ a.cl = b.cl ∧ a.seq = b.seq ∧ a.h = b.h ∧ a.t = b.t ∧ a.sb = b.sb ∧ a.sm = b.sm then .isTrue (by cases a; cases b; simp_all) else .isFalse (fun e => h (by rw [e]; simp))
instance : DecidableEq Zn := fun a b =>
 if h : a.cl = b.cl ∧ a.seq = b.seq ∧ a.h = b.h ∧ a.len = b.len ∧ a.sb = b.sb ∧ a.sm = b.sm then .isTrue (by cases a; cases b; simp_all) else .isFalse (fun e => h (by rw [e]; simp))
instance : DecidableEq DenyD := fun a b =>
 if h : a.r = b.r ∧ a.i = b.i ∧ a.sb = b.sb ∧ a.sm = b.sm then .isTrue (by cases a; cases b; simp_all) else .isFalse (fun e => h (by rw [e]; simp))
theorem Z3C (w : World) (a b c d : Int) : (Op.equalIn 9999 29 (Z5g a b) (Z5g c d)).run Tryz.prog w = .ok (decide (a = c ∧ b = d)) w := by
 have ei := fun a b => run_equalIn_int (P := Tryz.prog) w 9997 3 .i64 .i64 a b Tryz.underlying3
 refine (Z1g (d := 9998) _ [a == c, b == d] Tryz.underlying29 (by kernel_rfl)
  ⟨⟨by decide, .int .i64 a, .int .i64 c, by kernel_rfl, by kernel_rfl, ei _ _⟩, ⟨by decide, .int .i64 b, .int .i64 d, by kernel_rfl, by kernel_rfl, ei _ _⟩, trivial⟩).trans ?_
 congr 1
 rw [Bool.eq_iff_iff]
 simp
theorem stF_i (w : World) (s : Zd) : (part 3 ⟨Z0l s⟩ 0).run Tryz.prog w = .ok (.int .i64 s.r) w ∧ (part 24 ⟨Z0l s⟩ 1).run Tryz.prog w = .ok (Z5g s.cl s.seq) w ∧ (part 26 ⟨Z0l s⟩ 3).run Tryz.prog w = .ok (Z6e s.h) w ∧ (part 27 ⟨Z0l s⟩ 35).run Tryz.prog w = .ok (.int .u64 s.t) w ∧ (part 29 ⟨Z0l s⟩ 36).run Tryz.prog w = .ok (Z5g s.sb s.sm) w :=
 ⟨by kernel_rfl, by kernel_rfl, by kernel_rfl, by kernel_rfl, by kernel_rfl⟩
theorem stF : Flat Tryz.prog 101 Z0l := by
 refine ⟨fun w x y => ?_, by kernel_rfl⟩
 obtain ⟨x1, x2, x3, x4, x5⟩ := stF_i w x
 obtain ⟨y1, y2, y3, y4, y5⟩ := stF_i w y
 have ei := fun a b => run_equalIn_int (P := Tryz.prog) w 9998 3 .i64 .i64 a b Tryz.underlying3
 have eu := fun a b => run_equalIn_int (P := Tryz.prog) w 9998 27 .u64 .u64 a b Tryz.underlying27
 refine (Z1g (d := 9999) _ [x.r == y.r, decide (x.cl = y.cl ∧ x.seq = y.seq), decide (x.h = y.h), x.t == y.t, decide (x.sb = y.sb ∧ x.sm = y.sm)] Tryz.underlying101 (by kernel_rfl)
  ⟨⟨by decide, _, _, x1, y1, ei _ _⟩, ⟨by decide, _, _, x2, y2, Z3j w _ _ _ _⟩, ⟨by decide, _, _, x3, y3, Z28 w 9997 _ _⟩, ⟨by decide, _, _, x4, y4, eu _ _⟩, ⟨by decide, _, _, x5, y5, Z3C w _ _ _ _⟩, trivial⟩).trans ?_
 congr 1
 obtain ⟨a1, a2, a3, a4, a5, a6, a7⟩ := x
 obtain ⟨b1, b2, b3, b4, b5, b6, b7⟩ := y
 rw [Bool.eq_iff_iff]
 simp [and_assoc]
theorem coF_i (w : World) (s : Zn) : (part 24 ⟨Z2q s⟩ 0).run Tryz.prog w = .ok (Z5g s.cl s.seq) w ∧ (part 26 ⟨Z2q s⟩ 2).run Tryz.prog w = .ok (Z6e s.h) w ∧ (part 3 ⟨Z2q s⟩ 34).run Tryz.prog w = .ok (.int .i64 s.len) w ∧ (part 29 ⟨Z2q s⟩ 35).run Tryz.prog w = .ok (Z5g s.sb s.sm) w :=
 ⟨by kernel_rfl, by kernel_rfl, by kernel_rfl, by kernel_rfl⟩
theorem coF : Flat Tryz.prog 50 Z2q := by
 refine ⟨fun w x y => ?_, by kernel_rfl⟩
 obtain ⟨x1, x2, x3, x4⟩ := coF_i w x
 obtain ⟨y1, y2, y3, y4⟩ := coF_i w y
 have ei := fun a b => run_equalIn_int (P := Tryz.prog) w 9998 3 .i64 .i64 a b Tryz.underlying3
 refine (Z1g (d := 9999) _ [decide (x.cl = y.cl ∧ x.seq = y.seq), decide (x.h = y.h), x.len == y.len, decide (x.sb = y.sb ∧ x.sm = y.sm)] Tryz.underlying50 (by kernel_rfl)
  ⟨⟨by decide, _, _, x1, y1, Z3j w _ _ _ _⟩, ⟨by decide, _, _, x2, y2, Z28 w 9997 _ _⟩, ⟨by decide, _, _, x3, y3, ei _ _⟩, ⟨by decide, _, _, x4, y4, Z3C w _ _ _ _⟩, trivial⟩).trans ?_
 congr 1
 obtain ⟨a1, a2, a3, a4, a5, a6⟩ := x
 obtain ⟨b1, b2, b3, b4, b5, b6⟩ := y
 rw [Bool.eq_iff_iff]
 simp [and_assoc]
end Go.Proofs.YtoaifondpohniaaGreat
