/- WHAT IS PROVED: contracts and plain laws of Own11. Conditions: stated with each. -/
import Derived.Test.YtoaifondpohniaaGreatPS04
import Derived.Test.YtoaifondpohniaaGreatPS33
set_option maxHeartbeats 4000000
set_option maxRecDepth 100000
namespace Go.Proofs.YtoaifondpohniaaGreat
open Go.RowKit
abbrev Z0E (p0 : Nat) : List Value := ([(.map (some p0))] : List Value)
abbrev ZV (p0 : Nat) (p1 : List Signed) : Ck := ZC p0 Za (Value.int .i64) (Zq p1)
abbrev Z0u (p0 : Nat) (p1 : Nat) : List Value := ([(pt p0 0), (pt p1 0)] : List Value)
abbrev Z0n (p0 : Int) (p1 : Int) : List Value := ([(.int .i64 p0), (.int .i64 p1)] : List Value)
abbrev Z0x (p0 : Zn) : List Value := ([(.int .i64 p0.cl), (.int .i64 p0.seq)] : List Value) ++ hc p0.h ++ ([(.int .i64 p0.len), (.int .i64 p0.sb), (.int .i64 p0.sm)] : List Value)
abbrev Z0A : List Value := ([(.int .i64 (0)), (.int .i64 (0))] : List Value) ++ hc Zo ++ ([(.int .i64 (0)), (.int .i64 (0)), (.int .i64 (0)), (.slice none 0 0)] : List Value)
abbrev Z68 (p0 : Zn) : List Value := ([(.int .i64 p0.cl), (.int .i64 p0.seq)] : List Value) ++ hc p0.h ++ ([(.int .i64 p0.len), (.int .i64 p0.sb), (.int .i64 p0.sm), (.slice none 0 0)] : List Value)
abbrev Z0p (p0 : Zn) (p1 : Option Addr) (p2 : Nat) (p3 : Nat) : List Value := ([(.int .i64 p0.cl), (.int .i64 p0.seq)] : List Value) ++ hc p0.h ++ ([(.int .i64 p0.len), (.int .i64 p0.sb), (.int .i64 p0.sm), (.slice p1 p2 p3)] : List Value)
abbrev Z0J (p0 : Option Addr) (p1 : List Zd) (p2 : Nat) : Ck := Zb 101 38 (.slice p0 p1.length p2) p1.length (p1.flatMap Z0l)
abbrev Z2l (p0 : Int) (p1 : Zn) (p2 : Int) : List Value := ([(.int .i64 p0), (.int .i64 p1.cl), (.int .i64 p1.seq)] : List Value) ++ hc p1.h ++ ([(.int .u64 p2), (.int .i64 (0)), (.int .i64 (0))] : List Value)
abbrev Z2i : List Value := ([(.int .i64 (0)), (.int .i64 (0)), (.int .i64 (0))] : List Value) ++ hc Zo ++ ([(.int .u64 (0)), (.int .i64 (0)), (.int .i64 (0))] : List Value)
abbrev Z15 (p0 : Option Addr) (p1 : List UInt8) (p2 : Nat) : Ck := Zb 5 1 (.slice p0 p1.length p2) p1.length (p1.flatMap Zr)
abbrev Z13 (p0 : Int) (p1 : Zn) (p2 : Int) (p3 : Int) : List Value := ([(.int .i64 p0), (.int .i64 p1.cl), (.int .i64 p1.seq)] : List Value) ++ hc p1.h ++ ([(.int .u64 p2), (.int .i64 p0), (.int .i64 p3)] : List Value)
abbrev Z1j (p0 : Int) (p1 : Zn) : List Value := ([(.int .i64 p0), (.int .i64 p1.cl), (.int .i64 p1.seq)] : List Value) ++ hc p1.h ++ ([(.int .u64 (5)), (.int .i64 (0)), (.int .i64 (0))] : List Value)
abbrev Z1c (p0 : Int) (p1 : Zn) (p2 : Int) : List Value := ([(.int .i64 p0), (.int .i64 p1.cl), (.int .i64 p1.seq)] : List Value) ++ hc p1.h ++ ([(.int .u64 (5)), (.int .i64 p0), (.int .i64 p2)] : List Value)
theorem Z3G (w : World) (b mb r : Nat) (L : List Signed) (hB : (ZH [Z3 b 110 [.map (some mb)], ZC mb Za (Value.int .i64) (Zq L)]).ok w) (f cn : Int) (hf : 1 ≤ f ∧ f ≤ 5) (x : Zn) (hx : Z8u x) (from_ : Int) (hL : L.length ≤ 1000) (hn : L.Nodup) (va : Option Addr) (vc : Nat) (xs : List Int) (hxs : ListAt Z1V 1 w (.slice va xs.length vc) xs) (hbd : ∀ x ∈ xs, 0 ≤ x ∧ x ≤ 18446744073709551615) (hva : 0 < xs.length → ∀ ad, va = some ad → ¬ (ZH [Z3 b 110 [.map (some mb)], ZC mb Za (Value.int .i64) (Zq L)]).fp ad.block) :
  Calls Tryz.prog 24 #[(.agg ⟨([(.pointer (some ⟨b, 0, none⟩)), (.pointer (some ⟨r, 0, none⟩))] : List Value)⟩), (.agg ⟨([(.int .i64 (f)), (.int .i64 (cn))] : List Value)⟩), (.agg ⟨(([(.int .i64 (x.cl)), (.int .i64 (x.seq))] : List Value) ++ hc x.h ++ ([(.int .i64 (x.len)), (.int .i64 (x.sb)), (.int .i64 (x.sm))] : List Value))⟩), (.int .i64 (from_)), (.slice va xs.length vc)] w fun e w' => ∃ (L1 : List Signed) (da : Option Addr) (dc : Nat) (D : List Zd), e = .returned (.agg ⟨Z2q x ++ [.slice da D.length dc]⟩) ∧ (D.length : Int) = 2 * f + 1 ∧ (∀ s ∈ D, StB s) ∧ L1.Nodup ∧ L1.length ≤ L.length + 11 ∧ Sat w [Z3 b 110 [.map (some mb)], ZC mb Za (Value.int .i64) (Zq L1), Zb 101 38 (.slice da D.length dc) D.length (D.flatMap Z0l), Z6 w (ZH [Z3 b 110 [.map (some mb)], ZC mb Za (Value.int .i64) (Zq L)]).fp] w' := by
 have hwf := Z35 from_ (f + 1) (by omega)
 obtain ⟨Q, hQ⟩ : ∃ Q : Nat, (Q : Int) = 2 * f + 1 := ⟨(2 * f + 1).toNat, by omega⟩
 have H := Sat.start _ hB
 refine ZE Tryz.func24 rfl 63 rfl (Nat.le_of_ble_eq_true rfl) ?_
 apply zsl
 refine zwd fun Kq kq => ?_
 refine zdb (Z0u b r) H ?_
 intro b2 w3 (H4 : Sat w [Z3 b 110 (Z0E mb), (ZV mb L), Z6 w (ZH [Z3 b 110 [.map (some mb)], (ZV mb L)]).fp, Z3 b2 40 (Z0u b r)] w3)
 refine kq _ _ ?_
 clear kq Kq
 refine zwd fun Kq kq => ?_
 refine zdb (Z0n f cn) H4 ?_
 intro b6 w7 H8
 refine kq _ _ ?_
 clear kq Kq
 refine zwd fun Kq kq => ?_
 refine zdb (Z0x x) H8 ?_
 intro b10 w11 (H12 : Sat w [Z3 b 110 (Z0E mb), (ZV mb L), Z6 w (ZH [Z3 b 110 [.map (some mb)], (ZV mb L)]).fp, Z3 b2 40 (Z0u b r), Z3 b6 36 (Z0n f cn), Z3 b10 50 (Z0x x)] w11)
 refine kq _ _ ?_
 clear kq Kq
 refine zwd fun Kq kq => ?_
 refine zda (Z0A) H12 ?_
 intro b14 w15 H16
 refine kq _ _ ?_
 clear kq Kq
 apply Z8K
 refine zwN 15 (Z0x x) (H16.at 5 rfl) ?_
 refine wv 16 (.agg ⟨(Z68 x)⟩) ?_
 refine zwd fun Kq kq => ?_
 refine zda (Z0A) H16 ?_
 intro b18 w19 (H20 : Sat w [Z3 b 110 (Z0E mb), (ZV mb L), Z6 w (ZH [Z3 b 110 [.map (some mb)], (ZV mb L)]).fp, Z3 b2 40 (Z0u b r), Z3 b6 36 (Z0n f cn), Z3 b10 50 (Z0x x), Z3 b14 53 (Z0A), Z3 b18 53 (Z0A)] w19)
 refine kq _ _ ?_
 clear kq Kq
 refine zwd fun Kq kq => ?_
 refine Z6T (Z68 x) H20 7 ?_
 intro w22 H23
 refine kq _ _ ?_
 clear kq Kq
 apply Z8K
 refine wv 17 (.int .i64 (from_)) ?_
 refine wv 18 (pt b6 0) ?_
 refine zw1 19 (.int .i64 (f)) (H23.cell 4 rfl rfl) ?_
 refine zwi 20 (f + 1) ?_
 refine zwd fun Kq kq => ?_
 refine zdq 21 (Z1s w22 from_ (f + 1) (by omega)) H23 ?_
 intro w26 H27
 refine kq _ _ ?_
 clear kq Kq
 refine wv 3 (.int .i64 (Z5 from_ (f + 1))) ?_
 apply znt
 apply Zc
 apply zsl
 refine wv 12 (.int .i64 (0)) ?_
 apply znt
 apply ZR
 have H29 := H27.addNil 101 38
 refine Z0m ([12, 13, 14] ++ List.range' 22 40) (fun F_ W_ m_ => ∃ (i : Nat) (da : Option Addr) (dc : Nat) (D : List Zd) (L1 : List Signed), F_ 12 = (.int .i64 ((i : Int))) ∧ (i ≤ Q) ∧ (∀ s ∈ D, StB s) ∧ (L1.Nodup) ∧ (L1.length ≤ L.length + i) ∧ (D.length = i) ∧ Sat w [Z3 b 110 (Z0E mb), (ZV mb L1), Z6 w (ZH [Z3 b 110 [.map (some mb)], (ZV mb L)]).fp, Z3 b2 40 (Z0u b r), Z3 b6 36 (Z0n f cn), Z3 b10 50 (Z0x x), Z3 b14 53 (Z0A), Z3 b18 53 (Z0p x da D.length dc), (Z0J da D dc)] W_ ∧ m_ = Q - i) _ ⟨0, none, 0, [], L, (show ((.int .i64 (0)) : Value) = _ by first | rfl | go_num), (Nat.zero_le _), (by simp), hn, (by omega), rfl, H29, rfl⟩ ?_
 rintro g30 w31 _ ⟨i, da, dc, D, L1, v33, hin, hok, hnd, hLl, hDl, H32, rfl⟩
 refine Zs 12 _ v33 ?_
 apply Zc
 apply zsl
 refine wv 22 (.int .i64 ((i : Int))) ?_
 refine zwN 23 (Z0n f cn) (H32.at 4 rfl) ?_
 refine zwd fun Kq kq => ?_
 refine zdq 24 (Z8d w31 f cn (by omega)) H32 ?_
 intro w36 H37
 refine kq _ _ ?_
 clear kq Kq
 refine wv 25 (.bool (decide ((i : Int) < (2 * f + 1)))) ?_
 apply znt
 refine (ZS (decide ((i : Int) < (2 * f + 1)))).elim (fun b39 => ?_) (fun b39 => ?_)
 ·have g40 := of_decide_eq_true b39
  refine zwkt _ b39 ?_
  apply Z0b
  apply ztn
  apply Zc
  apply ZR
  apply zsl
  refine wv 13 (.int .u64 (5)) ?_
  apply znt
  apply Zc
  apply zsl
  refine wv 28 (.int .i64 ((i : Int))) ?_
  refine wv 29 (.slice va xs.length vc) ?_
  refine wv 30 (.int .i64 ((xs.length : Int))) ?_
  refine wv 31 (.bool (decide ((i : Int) < (xs.length : Int)))) ?_
  apply znt
  refine (ZS (decide ((i : Int) < (xs.length : Int)))).elim (fun b42 => ?_) (fun b42 => ?_)
  ·have g43 := of_decide_eq_true b42
   refine zwkt _ b42 ?_
   have hx0 : 0 ≤ xs.getD i 0 := (hbd _ (Z7e (by omega))).1
   apply Zp
   refine wv 32 (.slice va xs.length vc) ?_
   refine wv 33 (.int .i64 ((i : Int))) ?_
   obtain ⟨g45, o46, c47, e48, R49⟩ := SliceOf.atD hxs 0 (show i < xs.length by omega)
   refine wv 34 (.pointer (some ⟨g45, o46 + ((i : Int)).toNat * 1, none⟩)) ?_ (hr := ZZ (E := 27) (by kernel_rfl) (by kernel_rfl) (Nat.le_of_ble_eq_true rfl) rfl e48 rfl (by omega) (by omega))
   refine zw1 35 (.int .u64 ((xs.getD i 0))) (H37.cellR 2 rfl (Z18 R49 0 (by kernel_rfl) (show o46 + ((i : Int)).toNat * 1 = o46 + i * 1 + 0 by omega)) (by have hq := hva (by omega) _ (Z5q e48); exact hq)) ?_
   refine wv 36 (.int .u64 ((xs.getD i 0) % 1000)) ?_ (hr := Z5B (by kernel_rfl) (by omega) (by omega))
   refine wv 37 (.int .u64 (1 + ((xs.getD i 0) % 1000))) ?_ (hr := Z04 (z := 1 + ((xs.getD i 0) % 1000)) (by kernel_rfl) (Z11 (by omega)))
   refine wv 13 (.int .u64 (1 + ((xs.getD i 0) % 1000))) ?_
   apply Z8K
   refine wv 38 (.int .i64 (Z5 from_ (f + 1))) ?_
   refine wv 39 (.int .i64 ((i : Int))) ?_
   refine zwi 40 ((Z5 from_ (f + 1)) + (i : Int)) ?_
   refine wv 41 (pt b10 0) ?_
   refine zwN 42 (Z0n x.cl x.seq) (H37.at 5 rfl) ?_
   refine wv 43 (pt b10 2) ?_
   refine zwN 44 (hc x.h) (H37.at 5 rfl) ?_
   refine wv 45 (.int .u64 (1 + ((xs.getD i 0) % 1000))) ?_
   refine wv 46 (.agg ⟨(Z2l ((Z5 from_ (f + 1)) + (i : Int)) x (1 + ((xs.getD i 0) % 1000)))⟩) ?_
   refine zwd fun Kq kq => ?_
   refine zda (Z2i) H37 ?_
   intro b51 w52 (H53 : Sat w [Z3 b 110 (Z0E mb), (ZV mb L1), Z6 w (ZH [Z3 b 110 [.map (some mb)], (ZV mb L)]).fp, Z3 b2 40 (Z0u b r), Z3 b6 36 (Z0n f cn), Z3 b10 50 (Z0x x), Z3 b14 53 (Z0A), Z3 b18 53 (Z0p x da D.length dc), (Z0J da D dc), Z3 b51 101 (Z2i)] w52)
   refine kq _ _ ?_
   clear kq Kq
   refine zwd fun Kq kq => ?_
   refine Z6T (Z2l ((Z5 from_ (f + 1)) + (i : Int)) x (1 + ((xs.getD i 0) % 1000))) H53 9 ?_
   intro w55 H56
   refine kq _ _ ?_
   clear kq Kq
   apply znt
   apply Zc
   refine Z1f H56 [Z6 w (ZH [Z3 b 110 [.map (some mb)], (ZV mb L)]).fp, Z3 b2 40 (Z0u b r), Z3 b6 36 (Z0n f cn), Z3 b10 50 (Z0x x), Z3 b14 53 (Z0A), Z3 b18 53 (Z0p x da D.length dc), (Z0J da D dc), Z3 b51 101 (Z2l ((Z5 from_ (f + 1)) + (i : Int)) x (1 + ((xs.getD i 0) % 1000)))] [9] 10 rfl (by kernel_rfl) (fun Hx => (Hx.pk [2, 3, 4, 5, 6, 7, 8, 9])) ?_
   intro w58 H59 S60
   refine zkp 0 S60 47 (pt b2 0) ?_
   refine zkv 1 S60 48 (pt b 0) ?_ (he := fun _ H' => (Zi rfl (by kernel_rfl) (H'.cell 1 rfl rfl)))
   refine zkp 2 S60 49 (.int .i64 (Z5 from_ (f + 1))) ?_
   refine zkp 3 S60 50 (.int .i64 ((i : Int))) ?_
   refine zkp 4 S60 51 (.int .i64 ((Z5 from_ (f + 1)) + (i : Int))) ?_ (he := fun _ => (Z04 (z := (Z5 from_ (f + 1)) + (i : Int)) (by kernel_rfl) (IntWalk.i64_in _ (by omega))))
   refine zkv 5 S60 52 (.agg ⟨(Z2l ((Z5 from_ (f + 1)) + (i : Int)) x (1 + ((xs.getD i 0) % 1000)))⟩) ?_ (he := fun _ H' => (ZB (vs := (Z2l ((Z5 from_ (f + 1)) + (i : Int)) x (1 + ((xs.getD i 0) % 1000)))) rfl (by kernel_rfl) (by kernel_rfl) (by exact Nat.le_of_ble_eq_true (by kernel_rfl)) (H'.at 7 rfl) (by kernel_rfl)))
   refine Z8m 6 fun Kq kq => ?_
   refine zdc 53 (Z2t w58 (⟨(Z5 from_ (f + 1)) + (i : Int), x.cl, x.seq, x.h, 1 + ((xs.getD i 0) % 1000), 0, 0⟩ : Zd) ⟨by show Z5 from_ (f + 1) + (i : Int) ≤ _; omega, hx.1, hx.2.1, by show 0 ≤ 1 + ((xs.getD i 0) % 1000); omega, by show 1 + ((xs.getD i 0) % 1000) < _; omega⟩) ?_
   rintro _ w62 ⟨u63, rfl, k64, p65, q66⟩
   have H67 : Sat w [Z3 b 110 (Z0E mb), (ZV mb L1), Z6 w (ZH [Z3 b 110 [.map (some mb)], (ZV mb L)]).fp, Z3 b2 40 (Z0u b r), Z3 b6 36 (Z0n f cn), Z3 b10 50 (Z0x x), Z3 b14 53 (Z0A), Z3 b18 53 (Z0p x da D.length dc), (Z0J da D dc), Z3 b51 101 (Z2l ((Z5 from_ (f + 1)) + (i : Int)) x (1 + ((xs.getD i 0) % 1000))), Zb 5 1 u63 ((Zw (⟨(Z5 from_ (f + 1)) + (i : Int), x.cl, x.seq, x.h, 1 + ((xs.getD i 0) % 1000), 0, 0⟩ : Zd)).length) ((Zw (⟨(Z5 from_ (f + 1)) + (i : Int), x.cl, x.seq, x.h, 1 + ((xs.getD i 0) % 1000), 0, 0⟩ : Zd)).flatMap Zr)] w62 := H59.addU p65 k64 q66
   obtain ⟨a68, c69, rfl⟩ := Zl (H67.at 10 rfl)
   refine ⟨_, rfl, ?_⟩
   have S70 := H67.pk [2, 3, 4, 5, 6, 7, 8, 9]
   refine kq _ _ S70 ?_
   clear kq Kq
   refine Z8m 7 fun Kq kq => ?_
   refine zdc 54 (Z1N w62 b mb L1 (.slice a68 ((Zw (⟨(Z5 from_ (f + 1)) + (i : Int), x.cl, x.seq, x.h, 1 + ((xs.getD i 0) % 1000), 0, 0⟩ : Zd)).length) c69) (Zw (⟨(Z5 from_ (f + 1)) + (i : Int), x.cl, x.seq, x.h, 1 + ((xs.getD i 0) % 1000), 0, 0⟩ : Zd)) (H67.fn [0, 1, 10]) (by omega) ((Z5 from_ (f + 1)) + (i : Int))) ?_
   rintro _ w72 ⟨rfl, T73⟩
   have H74 := H67.tl [Z3 b 110 (Z0E mb), (ZV mb (Zg L1 (⟨(Z5 from_ (f + 1)) + (i : Int), (Zw (⟨(Z5 from_ (f + 1)) + (i : Int), x.cl, x.seq, x.h, 1 + ((xs.getD i 0) % 1000), 0, 0⟩ : Zd))⟩ : Signed))), (Z15 a68 (Zw (⟨(Z5 from_ (f + 1)) + (i : Int), x.cl, x.seq, x.h, 1 + ((xs.getD i 0) % 1000), 0, 0⟩ : Zd)) c69)] [0, 1, 10] [2, 3, 4, 5, 6, 7, 8, 9] T73 [0, 1, 3, 4, 5, 6, 7, 8, 9, 10, 2]
   refine ⟨_, rfl, ?_⟩
   have S75 := H74.pk [2, 3, 4, 5, 6, 7, 8, 9]
   refine kq _ _ S75 ?_
   clear kq Kq
   refine zkp 8 S75 55 (pt b51 36) ?_
   refine Z3b 9 (Sat w [Z6 w (ZH [Z3 b 110 [.map (some mb)], (ZV mb L)]).fp, Z3 b2 40 (Z0u b r), Z3 b6 36 (Z0n f cn), Z3 b10 50 (Z0x x), Z3 b14 53 (Z0A), Z3 b18 53 (Z0p x da D.length dc), (Z0J da D dc)]) rfl (by kernel_rfl) (Z1 rfl) rfl (fun Kq kq => ?_)
   refine zds (Z0n ((Z5 from_ (f + 1)) + (i : Int)) (Zt (Zg L1 (⟨(Z5 from_ (f + 1)) + (i : Int), (Zw (⟨(Z5 from_ (f + 1)) + (i : Int), x.cl, x.seq, x.h, 1 + ((xs.getD i 0) % 1000), 0, 0⟩ : Zd))⟩ : Signed)) (⟨(Z5 from_ (f + 1)) + (i : Int), (Zw (⟨(Z5 from_ (f + 1)) + (i : Int), x.cl, x.seq, x.h, 1 + ((xs.getD i 0) % 1000), 0, 0⟩ : Zd))⟩ : Signed))) (Z13 ((Z5 from_ (f + 1)) + (i : Int)) x (1 + ((xs.getD i 0) % 1000)) (Zt (Zg L1 (⟨(Z5 from_ (f + 1)) + (i : Int), (Zw (⟨(Z5 from_ (f + 1)) + (i : Int), x.cl, x.seq, x.h, 1 + ((xs.getD i 0) % 1000), 0, 0⟩ : Zd))⟩ : Signed)) (⟨(Z5 from_ (f + 1)) + (i : Int), (Zw (⟨(Z5 from_ (f + 1)) + (i : Int), x.cl, x.seq, x.h, 1 + ((xs.getD i 0) % 1000), 0, 0⟩ : Zd))⟩ : Signed))) H74 9 ?_
   intro w77 (H78 : Sat w [Z3 b 110 (Z0E mb), (ZV mb (Zg L1 (⟨(Z5 from_ (f + 1)) + (i : Int), (Zw (⟨(Z5 from_ (f + 1)) + (i : Int), x.cl, x.seq, x.h, 1 + ((xs.getD i 0) % 1000), 0, 0⟩ : Zd))⟩ : Signed))), Z6 w (ZH [Z3 b 110 [.map (some mb)], (ZV mb L)]).fp, Z3 b2 40 (Z0u b r), Z3 b6 36 (Z0n f cn), Z3 b10 50 (Z0x x), Z3 b14 53 (Z0A), Z3 b18 53 (Z0p x da D.length dc), (Z0J da D dc), Z3 b51 101 (Z13 ((Z5 from_ (f + 1)) + (i : Int)) x (1 + ((xs.getD i 0) % 1000)) (Zt (Zg L1 (⟨(Z5 from_ (f + 1)) + (i : Int), (Zw (⟨(Z5 from_ (f + 1)) + (i : Int), x.cl, x.seq, x.h, 1 + ((xs.getD i 0) % 1000), 0, 0⟩ : Zd))⟩ : Signed)) (⟨(Z5 from_ (f + 1)) + (i : Int), (Zw (⟨(Z5 from_ (f + 1)) + (i : Int), x.cl, x.seq, x.h, 1 + ((xs.getD i 0) % 1000), 0, 0⟩ : Zd))⟩ : Signed))), (Z15 a68 (Zw (⟨(Z5 from_ (f + 1)) + (i : Int), x.cl, x.seq, x.h, 1 + ((xs.getD i 0) % 1000), 0, 0⟩ : Zd)) c69)] w77)
   have S80 := H78.pk [2, 3, 4, 5, 6, 7, 8]
   refine kq _ _ S80 ?_
   clear kq Kq
   refine zhf ?_
   apply ztn
   apply Zp
   refine wv 56 (pt b18 37) ?_
   refine zw1 57 (.slice da D.length dc) (H78.cell 7 rfl (by kernel_rfl)) ?_
   refine zwN 58 (Z13 ((Z5 from_ (f + 1)) + (i : Int)) x (1 + ((xs.getD i 0) % 1000)) (Zt (Zg L1 (⟨(Z5 from_ (f + 1)) + (i : Int), (Zw (⟨(Z5 from_ (f + 1)) + (i : Int), x.cl, x.seq, x.h, 1 + ((xs.getD i 0) % 1000), 0, 0⟩ : Zd))⟩ : Signed)) (⟨(Z5 from_ (f + 1)) + (i : Int), (Zw (⟨(Z5 from_ (f + 1)) + (i : Int), x.cl, x.seq, x.h, 1 + ((xs.getD i 0) % 1000), 0, 0⟩ : Zd))⟩ : Signed))) (H78.at 9 rfl) ?_
   refine zwd fun Kq kq => ?_
   refine zdbs 101 38 80 (.agg ⟨(Z2i)⟩) [(0, (.agg ⟨(Z13 ((Z5 from_ (f + 1)) + (i : Int)) x (1 + ((xs.getD i 0) % 1000)) (Zt (Zg L1 (⟨(Z5 from_ (f + 1)) + (i : Int), (Zw (⟨(Z5 from_ (f + 1)) + (i : Int), x.cl, x.seq, x.h, 1 + ((xs.getD i 0) % 1000), 0, 0⟩ : Zd))⟩ : Signed)) (⟨(Z5 from_ (f + 1)) + (i : Int), (Zw (⟨(Z5 from_ (f + 1)) + (i : Int), x.cl, x.seq, x.h, 1 + ((xs.getD i 0) % 1000), 0, 0⟩ : Zd))⟩ : Signed)))⟩))] (Z13 ((Z5 from_ (f + 1)) + (i : Int)) x (1 + ((xs.getD i 0) % 1000)) (Zt (Zg L1 (⟨(Z5 from_ (f + 1)) + (i : Int), (Zw (⟨(Z5 from_ (f + 1)) + (i : Int), x.cl, x.seq, x.h, 1 + ((xs.getD i 0) % 1000), 0, 0⟩ : Zd))⟩ : Signed)) (⟨(Z5 from_ (f + 1)) + (i : Int), (Zw (⟨(Z5 from_ (f + 1)) + (i : Int), x.cl, x.seq, x.h, 1 + ((xs.getD i 0) % 1000), 0, 0⟩ : Zd))⟩ : Signed))) H78 ?_
   intro b82 w83 (H84 : Sat w [Z3 b 110 (Z0E mb), (ZV mb (Zg L1 (⟨(Z5 from_ (f + 1)) + (i : Int), (Zw (⟨(Z5 from_ (f + 1)) + (i : Int), x.cl, x.seq, x.h, 1 + ((xs.getD i 0) % 1000), 0, 0⟩ : Zd))⟩ : Signed))), Z6 w (ZH [Z3 b 110 [.map (some mb)], (ZV mb L)]).fp, Z3 b2 40 (Z0u b r), Z3 b6 36 (Z0n f cn), Z3 b10 50 (Z0x x), Z3 b14 53 (Z0A), Z3 b18 53 (Z0p x da D.length dc), (Z0J da D dc), Z3 b51 101 (Z13 ((Z5 from_ (f + 1)) + (i : Int)) x (1 + ((xs.getD i 0) % 1000)) (Zt (Zg L1 (⟨(Z5 from_ (f + 1)) + (i : Int), (Zw (⟨(Z5 from_ (f + 1)) + (i : Int), x.cl, x.seq, x.h, 1 + ((xs.getD i 0) % 1000), 0, 0⟩ : Zd))⟩ : Signed)) (⟨(Z5 from_ (f + 1)) + (i : Int), (Zw (⟨(Z5 from_ (f + 1)) + (i : Int), x.cl, x.seq, x.h, 1 + ((xs.getD i 0) % 1000), 0, 0⟩ : Zd))⟩ : Signed))), (Z15 a68 (Zw (⟨(Z5 from_ (f + 1)) + (i : Int), x.cl, x.seq, x.h, 1 + ((xs.getD i 0) % 1000), 0, 0⟩ : Zd)) c69), Zb 101 38 (.slice (some ⟨b82, 0, none⟩) 1 1) 1 (Z13 ((Z5 from_ (f + 1)) + (i : Int)) x (1 + ((xs.getD i 0) % 1000)) (Zt (Zg L1 (⟨(Z5 from_ (f + 1)) + (i : Int), (Zw (⟨(Z5 from_ (f + 1)) + (i : Int), x.cl, x.seq, x.h, 1 + ((xs.getD i 0) % 1000), 0, 0⟩ : Zd))⟩ : Signed)) (⟨(Z5 from_ (f + 1)) + (i : Int), (Zw (⟨(Z5 from_ (f + 1)) + (i : Int), x.cl, x.seq, x.h, 1 + ((xs.getD i 0) % 1000), 0, 0⟩ : Zd))⟩ : Signed)))] w83)
   have H85 : Sat w [Z3 b 110 (Z0E mb), (ZV mb (Zg L1 (⟨(Z5 from_ (f + 1)) + (i : Int), (Zw (⟨(Z5 from_ (f + 1)) + (i : Int), x.cl, x.seq, x.h, 1 + ((xs.getD i 0) % 1000), 0, 0⟩ : Zd))⟩ : Signed))), Z6 w (ZH [Z3 b 110 [.map (some mb)], (ZV mb L)]).fp, Z3 b2 40 (Z0u b r), Z3 b6 36 (Z0n f cn), Z3 b10 50 (Z0x x), Z3 b14 53 (Z0A), Z3 b18 53 (Z0p x da D.length dc), (Z0J da D dc), Z3 b51 101 (Z13 ((Z5 from_ (f + 1)) + (i : Int)) x (1 + ((xs.getD i 0) % 1000)) (Zt (Zg L1 (⟨(Z5 from_ (f + 1)) + (i : Int), (Zw (⟨(Z5 from_ (f + 1)) + (i : Int), x.cl, x.seq, x.h, 1 + ((xs.getD i 0) % 1000), 0, 0⟩ : Zd))⟩ : Signed)) (⟨(Z5 from_ (f + 1)) + (i : Int), (Zw (⟨(Z5 from_ (f + 1)) + (i : Int), x.cl, x.seq, x.h, 1 + ((xs.getD i 0) % 1000), 0, 0⟩ : Zd))⟩ : Signed))), (Z15 a68 (Zw (⟨(Z5 from_ (f + 1)) + (i : Int), x.cl, x.seq, x.h, 1 + ((xs.getD i 0) % 1000), 0, 0⟩ : Zd)) c69), Zb 101 38 (.slice (some ⟨b82, 0, none⟩) 1 1) 1 ([(⟨(Z5 from_ (f + 1)) + (i : Int), x.cl, x.seq, x.h, 1 + ((xs.getD i 0) % 1000), (Z5 from_ (f + 1)) + (i : Int), Zt (Zg L1 (⟨(Z5 from_ (f + 1)) + (i : Int), (Zw (⟨(Z5 from_ (f + 1)) + (i : Int), x.cl, x.seq, x.h, 1 + ((xs.getD i 0) % 1000), 0, 0⟩ : Zd))⟩ : Signed)) (⟨(Z5 from_ (f + 1)) + (i : Int), (Zw (⟨(Z5 from_ (f + 1)) + (i : Int), x.cl, x.seq, x.h, 1 + ((xs.getD i 0) % 1000), 0, 0⟩ : Zd))⟩ : Signed)⟩ : Zd)].flatMap Z0l)] w83 := H84.cast (by rw [(show ((Z13 ((Z5 from_ (f + 1)) + (i : Int)) x (1 + ((xs.getD i 0) % 1000)) (Zt (Zg L1 (⟨(Z5 from_ (f + 1)) + (i : Int), (Zw (⟨(Z5 from_ (f + 1)) + (i : Int), x.cl, x.seq, x.h, 1 + ((xs.getD i 0) % 1000), 0, 0⟩ : Zd))⟩ : Signed)) (⟨(Z5 from_ (f + 1)) + (i : Int), (Zw (⟨(Z5 from_ (f + 1)) + (i : Int), x.cl, x.seq, x.h, 1 + ((xs.getD i 0) % 1000), 0, 0⟩ : Zd))⟩ : Signed))) : List Value) = [(⟨(Z5 from_ (f + 1)) + (i : Int), x.cl, x.seq, x.h, 1 + ((xs.getD i 0) % 1000), (Z5 from_ (f + 1)) + (i : Int), Zt (Zg L1 (⟨(Z5 from_ (f + 1)) + (i : Int), (Zw (⟨(Z5 from_ (f + 1)) + (i : Int), x.cl, x.seq, x.h, 1 + ((xs.getD i 0) % 1000), 0, 0⟩ : Zd))⟩ : Signed)) (⟨(Z5 from_ (f + 1)) + (i : Int), (Zw (⟨(Z5 from_ (f + 1)) + (i : Int), x.cl, x.seq, x.h, 1 + ((xs.getD i 0) % 1000), 0, 0⟩ : Zd))⟩ : Signed)⟩ : Zd)].flatMap Z0l by kernel_rfl)])
   refine kq _ _ ?_
   clear kq Kq
   refine zwd fun Kq kq => ?_
   refine Z0Z (T := 51) (e := 101) (size := 38) (bytes := 80) rfl H85 (by kernel_rfl) 8 11 rfl rfl rfl rfl (Z0Q Z0l Z3A [(⟨(Z5 from_ (f + 1)) + (i : Int), x.cl, x.seq, x.h, 1 + ((xs.getD i 0) % 1000), (Z5 from_ (f + 1)) + (i : Int), Zt (Zg L1 (⟨(Z5 from_ (f + 1)) + (i : Int), (Zw (⟨(Z5 from_ (f + 1)) + (i : Int), x.cl, x.seq, x.h, 1 + ((xs.getD i 0) % 1000), 0, 0⟩ : Zd))⟩ : Signed)) (⟨(Z5 from_ (f + 1)) + (i : Int), (Zw (⟨(Z5 from_ (f + 1)) + (i : Int), x.cl, x.seq, x.h, 1 + ((xs.getD i 0) % 1000), 0, 0⟩ : Zd))⟩ : Signed)⟩ : Zd)]) (by omega) (by omega) ?_
   intro v87 w88 H89
   have H92 : Sat w [Z3 b 110 (Z0E mb), (ZV mb (Zg L1 (⟨(Z5 from_ (f + 1)) + (i : Int), (Zw (⟨(Z5 from_ (f + 1)) + (i : Int), x.cl, x.seq, x.h, 1 + ((xs.getD i 0) % 1000), 0, 0⟩ : Zd))⟩ : Signed))), Z6 w (ZH [Z3 b 110 [.map (some mb)], (ZV mb L)]).fp, Z3 b2 40 (Z0u b r), Z3 b6 36 (Z0n f cn), Z3 b10 50 (Z0x x), Z3 b14 53 (Z0A), Z3 b18 53 (Z0p x da D.length dc), Zb 101 38 v87 ((D ++ [(⟨(Z5 from_ (f + 1)) + (i : Int), x.cl, x.seq, x.h, 1 + ((xs.getD i 0) % 1000), (Z5 from_ (f + 1)) + (i : Int), Zt (Zg L1 (⟨(Z5 from_ (f + 1)) + (i : Int), (Zw (⟨(Z5 from_ (f + 1)) + (i : Int), x.cl, x.seq, x.h, 1 + ((xs.getD i 0) % 1000), 0, 0⟩ : Zd))⟩ : Signed)) (⟨(Z5 from_ (f + 1)) + (i : Int), (Zw (⟨(Z5 from_ (f + 1)) + (i : Int), x.cl, x.seq, x.h, 1 + ((xs.getD i 0) % 1000), 0, 0⟩ : Zd))⟩ : Signed)⟩ : Zd)]).length) ((D ++ [(⟨(Z5 from_ (f + 1)) + (i : Int), x.cl, x.seq, x.h, 1 + ((xs.getD i 0) % 1000), (Z5 from_ (f + 1)) + (i : Int), Zt (Zg L1 (⟨(Z5 from_ (f + 1)) + (i : Int), (Zw (⟨(Z5 from_ (f + 1)) + (i : Int), x.cl, x.seq, x.h, 1 + ((xs.getD i 0) % 1000), 0, 0⟩ : Zd))⟩ : Signed)) (⟨(Z5 from_ (f + 1)) + (i : Int), (Zw (⟨(Z5 from_ (f + 1)) + (i : Int), x.cl, x.seq, x.h, 1 + ((xs.getD i 0) % 1000), 0, 0⟩ : Zd))⟩ : Signed)⟩ : Zd)]).flatMap Z0l), Z3 b51 101 (Z13 ((Z5 from_ (f + 1)) + (i : Int)) x (1 + ((xs.getD i 0) % 1000)) (Zt (Zg L1 (⟨(Z5 from_ (f + 1)) + (i : Int), (Zw (⟨(Z5 from_ (f + 1)) + (i : Int), x.cl, x.seq, x.h, 1 + ((xs.getD i 0) % 1000), 0, 0⟩ : Zd))⟩ : Signed)) (⟨(Z5 from_ (f + 1)) + (i : Int), (Zw (⟨(Z5 from_ (f + 1)) + (i : Int), x.cl, x.seq, x.h, 1 + ((xs.getD i 0) % 1000), 0, 0⟩ : Zd))⟩ : Signed))), (Z15 a68 (Zw (⟨(Z5 from_ (f + 1)) + (i : Int), x.cl, x.seq, x.h, 1 + ((xs.getD i 0) % 1000), 0, 0⟩ : Zd)) c69), Zb 101 38 (.slice (some ⟨b82, 0, none⟩) 1 1) 1 ([(⟨(Z5 from_ (f + 1)) + (i : Int), x.cl, x.seq, x.h, 1 + ((xs.getD i 0) % 1000), (Z5 from_ (f + 1)) + (i : Int), Zt (Zg L1 (⟨(Z5 from_ (f + 1)) + (i : Int), (Zw (⟨(Z5 from_ (f + 1)) + (i : Int), x.cl, x.seq, x.h, 1 + ((xs.getD i 0) % 1000), 0, 0⟩ : Zd))⟩ : Signed)) (⟨(Z5 from_ (f + 1)) + (i : Int), (Zw (⟨(Z5 from_ (f + 1)) + (i : Int), x.cl, x.seq, x.h, 1 + ((xs.getD i 0) % 1000), 0, 0⟩ : Zd))⟩ : Signed)⟩ : Zd)].flatMap Z0l)] w88 := H89.cast (by simp only [List.length_append, List.flatMap_append] <;> rfl)
   obtain ⟨a90, c91, rfl⟩ := Zl (H92.at 8 rfl)
   refine kq _ _ ?_
   clear kq Kq
   refine wv 61 (pt b18 37) ?_
   refine zwd fun Kq kq => ?_
   refine zds ([(.slice a90 ((D ++ [(⟨(Z5 from_ (f + 1)) + (i : Int), x.cl, x.seq, x.h, 1 + ((xs.getD i 0) % 1000), (Z5 from_ (f + 1)) + (i : Int), Zt (Zg L1 (⟨(Z5 from_ (f + 1)) + (i : Int), (Zw (⟨(Z5 from_ (f + 1)) + (i : Int), x.cl, x.seq, x.h, 1 + ((xs.getD i 0) % 1000), 0, 0⟩ : Zd))⟩ : Signed)) (⟨(Z5 from_ (f + 1)) + (i : Int), (Zw (⟨(Z5 from_ (f + 1)) + (i : Int), x.cl, x.seq, x.h, 1 + ((xs.getD i 0) % 1000), 0, 0⟩ : Zd))⟩ : Signed)⟩ : Zd)]).length) c91)] : List Value) (Z0p x a90 ((D ++ [(⟨(Z5 from_ (f + 1)) + (i : Int), x.cl, x.seq, x.h, 1 + ((xs.getD i 0) % 1000), (Z5 from_ (f + 1)) + (i : Int), Zt (Zg L1 (⟨(Z5 from_ (f + 1)) + (i : Int), (Zw (⟨(Z5 from_ (f + 1)) + (i : Int), x.cl, x.seq, x.h, 1 + ((xs.getD i 0) % 1000), 0, 0⟩ : Zd))⟩ : Signed)) (⟨(Z5 from_ (f + 1)) + (i : Int), (Zw (⟨(Z5 from_ (f + 1)) + (i : Int), x.cl, x.seq, x.h, 1 + ((xs.getD i 0) % 1000), 0, 0⟩ : Zd))⟩ : Signed)⟩ : Zd)]).length) c91) H92 7 ?_
   intro w94 H95
   refine kq _ _ ?_
   clear kq Kq
   apply Zm
   apply ZL
   apply ztn
   apply Zp
   refine wv 26 (.int .i64 ((i : Int))) ?_
   refine zwi 27 ((i : Int) + 1) ?_
   refine wv 12 (.int .i64 ((i : Int) + 1)) ?_
   apply Zm
   have hok2 : ∀ s ∈ (D ++ [(⟨(Z5 from_ (f + 1)) + (i : Int), x.cl, x.seq, x.h, 1 + ((xs.getD i 0) % 1000), (Z5 from_ (f + 1)) + (i : Int), Zt (Zg L1 (⟨(Z5 from_ (f + 1)) + (i : Int), (Zw (⟨(Z5 from_ (f + 1)) + (i : Int), x.cl, x.seq, x.h, 1 + ((xs.getD i 0) % 1000), 0, 0⟩ : Zd))⟩ : Signed)) (⟨(Z5 from_ (f + 1)) + (i : Int), (Zw (⟨(Z5 from_ (f + 1)) + (i : Int), x.cl, x.seq, x.h, 1 + ((xs.getD i 0) % 1000), 0, 0⟩ : Zd))⟩ : Signed)⟩ : Zd)]), StB s := fun s hs => by
    rcases List.mem_append.1 hs with h | h
    ·exact hok s h
    rw [List.mem_singleton.1 h]
    have q1 := (Z1u (Z1L L1 (⟨(Z5 from_ (f + 1)) + (i : Int), (Zw (⟨(Z5 from_ (f + 1)) + (i : Int), x.cl, x.seq, x.h, 1 + ((xs.getD i 0) % 1000), 0, 0⟩ : Zd))⟩ : Signed))).2
    have q2 := Z0w L1 (⟨(Z5 from_ (f + 1)) + (i : Int), (Zw (⟨(Z5 from_ (f + 1)) + (i : Int), x.cl, x.seq, x.h, 1 + ((xs.getD i 0) % 1000), 0, 0⟩ : Zd))⟩ : Signed)
    exact ⟨⟨by show Z5 from_ (f + 1) + (i : Int) ≤ _; omega, hx.1, hx.2.1, by show 0 ≤ 1 + ((xs.getD i 0) % 1000); omega, by show 1 + ((xs.getD i 0) % 1000) < _; omega⟩, by show Z5 from_ (f + 1) + (i : Int) ≤ _; omega, by show Zt (Zg L1 (⟨(Z5 from_ (f + 1)) + (i : Int), (Zw (⟨(Z5 from_ (f + 1)) + (i : Int), x.cl, x.seq, x.h, 1 + ((xs.getD i 0) % 1000), 0, 0⟩ : Zd))⟩ : Signed)) (⟨(Z5 from_ (f + 1)) + (i : Int), (Zw (⟨(Z5 from_ (f + 1)) + (i : Int), x.cl, x.seq, x.h, 1 + ((xs.getD i 0) % 1000), 0, 0⟩ : Zd))⟩ : Signed) ≤ _; omega⟩
   have H97 : Sat w [Z3 b 110 (Z0E mb), (ZV mb (Zg L1 (⟨(Z5 from_ (f + 1)) + (i : Int), (Zw (⟨(Z5 from_ (f + 1)) + (i : Int), x.cl, x.seq, x.h, 1 + ((xs.getD i 0) % 1000), 0, 0⟩ : Zd))⟩ : Signed))), Z6 w (ZH [Z3 b 110 [.map (some mb)], (ZV mb L)]).fp, Z3 b2 40 (Z0u b r), Z3 b6 36 (Z0n f cn), Z3 b10 50 (Z0x x), Z3 b14 53 (Z0A), Z3 b18 53 (Z0p x a90 ((D ++ [(⟨(Z5 from_ (f + 1)) + (i : Int), x.cl, x.seq, x.h, 1 + ((xs.getD i 0) % 1000), (Z5 from_ (f + 1)) + (i : Int), Zt (Zg L1 (⟨(Z5 from_ (f + 1)) + (i : Int), (Zw (⟨(Z5 from_ (f + 1)) + (i : Int), x.cl, x.seq, x.h, 1 + ((xs.getD i 0) % 1000), 0, 0⟩ : Zd))⟩ : Signed)) (⟨(Z5 from_ (f + 1)) + (i : Int), (Zw (⟨(Z5 from_ (f + 1)) + (i : Int), x.cl, x.seq, x.h, 1 + ((xs.getD i 0) % 1000), 0, 0⟩ : Zd))⟩ : Signed)⟩ : Zd)]).length) c91), (Z0J a90 (D ++ [(⟨(Z5 from_ (f + 1)) + (i : Int), x.cl, x.seq, x.h, 1 + ((xs.getD i 0) % 1000), (Z5 from_ (f + 1)) + (i : Int), Zt (Zg L1 (⟨(Z5 from_ (f + 1)) + (i : Int), (Zw (⟨(Z5 from_ (f + 1)) + (i : Int), x.cl, x.seq, x.h, 1 + ((xs.getD i 0) % 1000), 0, 0⟩ : Zd))⟩ : Signed)) (⟨(Z5 from_ (f + 1)) + (i : Int), (Zw (⟨(Z5 from_ (f + 1)) + (i : Int), x.cl, x.seq, x.h, 1 + ((xs.getD i 0) % 1000), 0, 0⟩ : Zd))⟩ : Signed)⟩ : Zd)]) c91)] w94 := H95.pk [0, 1, 2, 3, 4, 5, 6, 7, 8]
   refine ZM ?_ _ ⟨(i + 1), a90, c91, (D ++ [(⟨(Z5 from_ (f + 1)) + (i : Int), x.cl, x.seq, x.h, 1 + ((xs.getD i 0) % 1000), (Z5 from_ (f + 1)) + (i : Int), Zt (Zg L1 (⟨(Z5 from_ (f + 1)) + (i : Int), (Zw (⟨(Z5 from_ (f + 1)) + (i : Int), x.cl, x.seq, x.h, 1 + ((xs.getD i 0) % 1000), 0, 0⟩ : Zd))⟩ : Signed)) (⟨(Z5 from_ (f + 1)) + (i : Int), (Zw (⟨(Z5 from_ (f + 1)) + (i : Int), x.cl, x.seq, x.h, 1 + ((xs.getD i 0) % 1000), 0, 0⟩ : Zd))⟩ : Signed)⟩ : Zd)]), (Zg L1 (⟨(Z5 from_ (f + 1)) + (i : Int), (Zw (⟨(Z5 from_ (f + 1)) + (i : Int), x.cl, x.seq, x.h, 1 + ((xs.getD i 0) % 1000), 0, 0⟩ : Zd))⟩ : Signed)), rfl, (by omega), hok2, (Z0v hnd _), (by have q2 := Z0w L1 (⟨(Z5 from_ (f + 1)) + (i : Int), (Zw (⟨(Z5 from_ (f + 1)) + (i : Int), x.cl, x.seq, x.h, 1 + ((xs.getD i 0) % 1000), 0, 0⟩ : Zd))⟩ : Signed); omega), (by simp only [List.length_append, List.length_cons, List.length_nil]; omega), H97, rfl⟩ (by omega)
   exact zs
  have g98 := of_decide_eq_false b42
  refine zwkf _ b42 ?_
  apply Z0b
  apply ztn
  apply zsl
  refine wv 38 (.int .i64 (Z5 from_ (f + 1))) ?_
  refine wv 39 (.int .i64 ((i : Int))) ?_
  refine zwi 40 ((Z5 from_ (f + 1)) + (i : Int)) ?_
  refine wv 41 (pt b10 0) ?_
  refine zwN 42 (Z0n x.cl x.seq) (H37.at 5 rfl) ?_
  refine wv 43 (pt b10 2) ?_
  refine zwN 44 (hc x.h) (H37.at 5 rfl) ?_
  refine wv 45 (.int .u64 (5)) ?_
  refine wv 46 (.agg ⟨(Z1j ((Z5 from_ (f + 1)) + (i : Int)) x)⟩) ?_
  refine zwd fun Kq kq => ?_
  refine zda (Z2i) H37 ?_
  intro b101 w102 H103
  refine kq _ _ ?_
  clear kq Kq
  refine zwd fun Kq kq => ?_
  refine Z6T (Z1j ((Z5 from_ (f + 1)) + (i : Int)) x) H103 9 ?_
  intro w105 (H106 : Sat w [Z3 b 110 (Z0E mb), (ZV mb L1), Z6 w (ZH [Z3 b 110 [.map (some mb)], (ZV mb L)]).fp, Z3 b2 40 (Z0u b r), Z3 b6 36 (Z0n f cn), Z3 b10 50 (Z0x x), Z3 b14 53 (Z0A), Z3 b18 53 (Z0p x da D.length dc), (Z0J da D dc), Z3 b101 101 (Z1j ((Z5 from_ (f + 1)) + (i : Int)) x)] w105)
  refine kq _ _ ?_
  clear kq Kq
  apply znt
  apply Zc
  refine Z1f H106 [Z6 w (ZH [Z3 b 110 [.map (some mb)], (ZV mb L)]).fp, Z3 b2 40 (Z0u b r), Z3 b6 36 (Z0n f cn), Z3 b10 50 (Z0x x), Z3 b14 53 (Z0A), Z3 b18 53 (Z0p x da D.length dc), (Z0J da D dc), Z3 b101 101 (Z1j ((Z5 from_ (f + 1)) + (i : Int)) x)] [9] 10 rfl (by kernel_rfl) (fun Hx => (Hx.pk [2, 3, 4, 5, 6, 7, 8, 9])) ?_
  intro w108 H109 S110
  refine zkp 0 S110 47 (pt b2 0) ?_
  refine zkv 1 S110 48 (pt b 0) ?_ (he := fun _ H' => (Zi rfl (by kernel_rfl) (H'.cell 1 rfl rfl)))
  refine zkp 2 S110 49 (.int .i64 (Z5 from_ (f + 1))) ?_
  refine zkp 3 S110 50 (.int .i64 ((i : Int))) ?_
  refine zkp 4 S110 51 (.int .i64 ((Z5 from_ (f + 1)) + (i : Int))) ?_ (he := fun _ => (Z04 (z := (Z5 from_ (f + 1)) + (i : Int)) (by kernel_rfl) (IntWalk.i64_in _ (by omega))))
  refine zkv 5 S110 52 (.agg ⟨(Z1j ((Z5 from_ (f + 1)) + (i : Int)) x)⟩) ?_ (he := fun _ H' => (ZB (vs := (Z1j ((Z5 from_ (f + 1)) + (i : Int)) x)) rfl (by kernel_rfl) (by kernel_rfl) (by exact Nat.le_of_ble_eq_true (by kernel_rfl)) (H'.at 7 rfl) (by kernel_rfl)))
  refine Z8m 6 fun Kq kq => ?_
  refine zdc 53 (Z2t w108 (⟨(Z5 from_ (f + 1)) + (i : Int), x.cl, x.seq, x.h, 5, 0, 0⟩ : Zd) ⟨by show Z5 from_ (f + 1) + (i : Int) ≤ _; omega, hx.1, hx.2.1, by show 0 ≤ 5; omega, by show 5 < _; omega⟩) ?_
  rintro _ w112 ⟨u113, rfl, k114, p115, q116⟩
  have H117 := H109.addU p115 k114 q116
  obtain ⟨a118, c119, rfl⟩ := Zl (H117.at 10 rfl)
  refine ⟨_, rfl, ?_⟩
  have S120 := H117.pk [2, 3, 4, 5, 6, 7, 8, 9]
  refine kq _ _ S120 ?_
  clear kq Kq
  refine Z8m 7 fun Kq kq => ?_
  refine zdc 54 (Z1N w112 b mb L1 (.slice a118 ((Zw (⟨(Z5 from_ (f + 1)) + (i : Int), x.cl, x.seq, x.h, 5, 0, 0⟩ : Zd)).length) c119) (Zw (⟨(Z5 from_ (f + 1)) + (i : Int), x.cl, x.seq, x.h, 5, 0, 0⟩ : Zd)) (H117.fn [0, 1, 10]) (by omega) ((Z5 from_ (f + 1)) + (i : Int))) ?_
  rintro _ w122 ⟨rfl, T123⟩
  have H124 : Sat w [Z3 b 110 (Z0E mb), (ZV mb (Zg L1 (⟨(Z5 from_ (f + 1)) + (i : Int), (Zw (⟨(Z5 from_ (f + 1)) + (i : Int), x.cl, x.seq, x.h, 5, 0, 0⟩ : Zd))⟩ : Signed))), Z6 w (ZH [Z3 b 110 [.map (some mb)], (ZV mb L)]).fp, Z3 b2 40 (Z0u b r), Z3 b6 36 (Z0n f cn), Z3 b10 50 (Z0x x), Z3 b14 53 (Z0A), Z3 b18 53 (Z0p x da D.length dc), (Z0J da D dc), Z3 b101 101 (Z1j ((Z5 from_ (f + 1)) + (i : Int)) x), (Z15 a118 (Zw (⟨(Z5 from_ (f + 1)) + (i : Int), x.cl, x.seq, x.h, 5, 0, 0⟩ : Zd)) c119)] w122 := (Sat.turnL (L' := [Z3 b 110 (Z0E mb), (ZV mb (Zg L1 (⟨(Z5 from_ (f + 1)) + (i : Int), (Zw (⟨(Z5 from_ (f + 1)) + (i : Int), x.cl, x.seq, x.h, 5, 0, 0⟩ : Zd))⟩ : Signed))), (Z15 a118 (Zw (⟨(Z5 from_ (f + 1)) + (i : Int), x.cl, x.seq, x.h, 5, 0, 0⟩ : Zd)) c119)]) (R := [Z6 w (ZH [Z3 b 110 [.map (some mb)], (ZV mb L)]).fp, Z3 b2 40 (Z0u b r), Z3 b6 36 (Z0n f cn), Z3 b10 50 (Z0x x), Z3 b14 53 (Z0A), Z3 b18 53 (Z0p x da D.length dc), (Z0J da D dc), Z3 b101 101 (Z1j ((Z5 from_ (f + 1)) + (i : Int)) x)]) H117 [0, 1, 10] [2, 3, 4, 5, 6, 7, 8, 9] (by decide) (by kernel_rfl) rfl T123).pk [0, 1, 3, 4, 5, 6, 7, 8, 9, 10, 2]
  refine ⟨_, rfl, ?_⟩
  have S125 := H124.pk [2, 3, 4, 5, 6, 7, 8, 9]
  refine kq _ _ S125 ?_
  clear kq Kq
  refine zkp 8 S125 55 (pt b101 36) ?_
  refine Z3b 9 (Sat w [Z6 w (ZH [Z3 b 110 [.map (some mb)], (ZV mb L)]).fp, Z3 b2 40 (Z0u b r), Z3 b6 36 (Z0n f cn), Z3 b10 50 (Z0x x), Z3 b14 53 (Z0A), Z3 b18 53 (Z0p x da D.length dc), (Z0J da D dc)]) rfl (by kernel_rfl) (Z1 rfl) rfl (fun Kq kq => ?_)
  refine zds (Z0n ((Z5 from_ (f + 1)) + (i : Int)) (Zt (Zg L1 (⟨(Z5 from_ (f + 1)) + (i : Int), (Zw (⟨(Z5 from_ (f + 1)) + (i : Int), x.cl, x.seq, x.h, 5, 0, 0⟩ : Zd))⟩ : Signed)) (⟨(Z5 from_ (f + 1)) + (i : Int), (Zw (⟨(Z5 from_ (f + 1)) + (i : Int), x.cl, x.seq, x.h, 5, 0, 0⟩ : Zd))⟩ : Signed))) (Z1c ((Z5 from_ (f + 1)) + (i : Int)) x (Zt (Zg L1 (⟨(Z5 from_ (f + 1)) + (i : Int), (Zw (⟨(Z5 from_ (f + 1)) + (i : Int), x.cl, x.seq, x.h, 5, 0, 0⟩ : Zd))⟩ : Signed)) (⟨(Z5 from_ (f + 1)) + (i : Int), (Zw (⟨(Z5 from_ (f + 1)) + (i : Int), x.cl, x.seq, x.h, 5, 0, 0⟩ : Zd))⟩ : Signed))) H124 9 ?_
  intro w127 H128
  have S130 := H128.pk [2, 3, 4, 5, 6, 7, 8]
  refine kq _ _ S130 ?_
  clear kq Kq
  refine zhf ?_
  apply ztn
  apply Zp
  refine wv 56 (pt b18 37) ?_
  refine zw1 57 (.slice da D.length dc) (H128.cell 7 rfl (by kernel_rfl)) ?_
  refine zwN 58 (Z1c ((Z5 from_ (f + 1)) + (i : Int)) x (Zt (Zg L1 (⟨(Z5 from_ (f + 1)) + (i : Int), (Zw (⟨(Z5 from_ (f + 1)) + (i : Int), x.cl, x.seq, x.h, 5, 0, 0⟩ : Zd))⟩ : Signed)) (⟨(Z5 from_ (f + 1)) + (i : Int), (Zw (⟨(Z5 from_ (f + 1)) + (i : Int), x.cl, x.seq, x.h, 5, 0, 0⟩ : Zd))⟩ : Signed))) (H128.at 9 rfl) ?_
  refine zwd fun Kq kq => ?_
  refine zdbs 101 38 80 (.agg ⟨(Z2i)⟩) [(0, (.agg ⟨(Z1c ((Z5 from_ (f + 1)) + (i : Int)) x (Zt (Zg L1 (⟨(Z5 from_ (f + 1)) + (i : Int), (Zw (⟨(Z5 from_ (f + 1)) + (i : Int), x.cl, x.seq, x.h, 5, 0, 0⟩ : Zd))⟩ : Signed)) (⟨(Z5 from_ (f + 1)) + (i : Int), (Zw (⟨(Z5 from_ (f + 1)) + (i : Int), x.cl, x.seq, x.h, 5, 0, 0⟩ : Zd))⟩ : Signed)))⟩))] (Z1c ((Z5 from_ (f + 1)) + (i : Int)) x (Zt (Zg L1 (⟨(Z5 from_ (f + 1)) + (i : Int), (Zw (⟨(Z5 from_ (f + 1)) + (i : Int), x.cl, x.seq, x.h, 5, 0, 0⟩ : Zd))⟩ : Signed)) (⟨(Z5 from_ (f + 1)) + (i : Int), (Zw (⟨(Z5 from_ (f + 1)) + (i : Int), x.cl, x.seq, x.h, 5, 0, 0⟩ : Zd))⟩ : Signed))) H128 ?_
  intro b132 w133 (H134 : Sat w [Z3 b 110 (Z0E mb), (ZV mb (Zg L1 (⟨(Z5 from_ (f + 1)) + (i : Int), (Zw (⟨(Z5 from_ (f + 1)) + (i : Int), x.cl, x.seq, x.h, 5, 0, 0⟩ : Zd))⟩ : Signed))), Z6 w (ZH [Z3 b 110 [.map (some mb)], (ZV mb L)]).fp, Z3 b2 40 (Z0u b r), Z3 b6 36 (Z0n f cn), Z3 b10 50 (Z0x x), Z3 b14 53 (Z0A), Z3 b18 53 (Z0p x da D.length dc), (Z0J da D dc), Z3 b101 101 (Z1c ((Z5 from_ (f + 1)) + (i : Int)) x (Zt (Zg L1 (⟨(Z5 from_ (f + 1)) + (i : Int), (Zw (⟨(Z5 from_ (f + 1)) + (i : Int), x.cl, x.seq, x.h, 5, 0, 0⟩ : Zd))⟩ : Signed)) (⟨(Z5 from_ (f + 1)) + (i : Int), (Zw (⟨(Z5 from_ (f + 1)) + (i : Int), x.cl, x.seq, x.h, 5, 0, 0⟩ : Zd))⟩ : Signed))), (Z15 a118 (Zw (⟨(Z5 from_ (f + 1)) + (i : Int), x.cl, x.seq, x.h, 5, 0, 0⟩ : Zd)) c119), Zb 101 38 (.slice (some ⟨b132, 0, none⟩) 1 1) 1 (Z1c ((Z5 from_ (f + 1)) + (i : Int)) x (Zt (Zg L1 (⟨(Z5 from_ (f + 1)) + (i : Int), (Zw (⟨(Z5 from_ (f + 1)) + (i : Int), x.cl, x.seq, x.h, 5, 0, 0⟩ : Zd))⟩ : Signed)) (⟨(Z5 from_ (f + 1)) + (i : Int), (Zw (⟨(Z5 from_ (f + 1)) + (i : Int), x.cl, x.seq, x.h, 5, 0, 0⟩ : Zd))⟩ : Signed)))] w133)
  have H135 := H134.ct 11 rfl (Zb 101 38 (.slice (some ⟨b132, 0, none⟩) 1 1) 1 ([(⟨(Z5 from_ (f + 1)) + (i : Int), x.cl, x.seq, x.h, 5, (Z5 from_ (f + 1)) + (i : Int), Zt (Zg L1 (⟨(Z5 from_ (f + 1)) + (i : Int), (Zw (⟨(Z5 from_ (f + 1)) + (i : Int), x.cl, x.seq, x.h, 5, 0, 0⟩ : Zd))⟩ : Signed)) (⟨(Z5 from_ (f + 1)) + (i : Int), (Zw (⟨(Z5 from_ (f + 1)) + (i : Int), x.cl, x.seq, x.h, 5, 0, 0⟩ : Zd))⟩ : Signed)⟩ : Zd)].flatMap Z0l)) (by rw [(show ((Z1c ((Z5 from_ (f + 1)) + (i : Int)) x (Zt (Zg L1 (⟨(Z5 from_ (f + 1)) + (i : Int), (Zw (⟨(Z5 from_ (f + 1)) + (i : Int), x.cl, x.seq, x.h, 5, 0, 0⟩ : Zd))⟩ : Signed)) (⟨(Z5 from_ (f + 1)) + (i : Int), (Zw (⟨(Z5 from_ (f + 1)) + (i : Int), x.cl, x.seq, x.h, 5, 0, 0⟩ : Zd))⟩ : Signed))) : List Value) = [(⟨(Z5 from_ (f + 1)) + (i : Int), x.cl, x.seq, x.h, 5, (Z5 from_ (f + 1)) + (i : Int), Zt (Zg L1 (⟨(Z5 from_ (f + 1)) + (i : Int), (Zw (⟨(Z5 from_ (f + 1)) + (i : Int), x.cl, x.seq, x.h, 5, 0, 0⟩ : Zd))⟩ : Signed)) (⟨(Z5 from_ (f + 1)) + (i : Int), (Zw (⟨(Z5 from_ (f + 1)) + (i : Int), x.cl, x.seq, x.h, 5, 0, 0⟩ : Zd))⟩ : Signed)⟩ : Zd)].flatMap Z0l by kernel_rfl)])
  refine kq _ _ ?_
  clear kq Kq
  refine zwd fun Kq kq => ?_
  refine Z0Z (T := 51) (e := 101) (size := 38) (bytes := 80) rfl H135 (by kernel_rfl) 8 11 rfl rfl rfl rfl (Z0Q Z0l Z3A [(⟨(Z5 from_ (f + 1)) + (i : Int), x.cl, x.seq, x.h, 5, (Z5 from_ (f + 1)) + (i : Int), Zt (Zg L1 (⟨(Z5 from_ (f + 1)) + (i : Int), (Zw (⟨(Z5 from_ (f + 1)) + (i : Int), x.cl, x.seq, x.h, 5, 0, 0⟩ : Zd))⟩ : Signed)) (⟨(Z5 from_ (f + 1)) + (i : Int), (Zw (⟨(Z5 from_ (f + 1)) + (i : Int), x.cl, x.seq, x.h, 5, 0, 0⟩ : Zd))⟩ : Signed)⟩ : Zd)]) (by omega) (by omega) ?_
  intro v137 w138 (H139 : Sat w [Z3 b 110 (Z0E mb), (ZV mb (Zg L1 (⟨(Z5 from_ (f + 1)) + (i : Int), (Zw (⟨(Z5 from_ (f + 1)) + (i : Int), x.cl, x.seq, x.h, 5, 0, 0⟩ : Zd))⟩ : Signed))), Z6 w (ZH [Z3 b 110 [.map (some mb)], (ZV mb L)]).fp, Z3 b2 40 (Z0u b r), Z3 b6 36 (Z0n f cn), Z3 b10 50 (Z0x x), Z3 b14 53 (Z0A), Z3 b18 53 (Z0p x da D.length dc), Zb 101 38 v137 (D.length + 1) ((D.flatMap Z0l) ++ ([(⟨(Z5 from_ (f + 1)) + (i : Int), x.cl, x.seq, x.h, 5, (Z5 from_ (f + 1)) + (i : Int), Zt (Zg L1 (⟨(Z5 from_ (f + 1)) + (i : Int), (Zw (⟨(Z5 from_ (f + 1)) + (i : Int), x.cl, x.seq, x.h, 5, 0, 0⟩ : Zd))⟩ : Signed)) (⟨(Z5 from_ (f + 1)) + (i : Int), (Zw (⟨(Z5 from_ (f + 1)) + (i : Int), x.cl, x.seq, x.h, 5, 0, 0⟩ : Zd))⟩ : Signed)⟩ : Zd)].flatMap Z0l)), Z3 b101 101 (Z1c ((Z5 from_ (f + 1)) + (i : Int)) x (Zt (Zg L1 (⟨(Z5 from_ (f + 1)) + (i : Int), (Zw (⟨(Z5 from_ (f + 1)) + (i : Int), x.cl, x.seq, x.h, 5, 0, 0⟩ : Zd))⟩ : Signed)) (⟨(Z5 from_ (f + 1)) + (i : Int), (Zw (⟨(Z5 from_ (f + 1)) + (i : Int), x.cl, x.seq, x.h, 5, 0, 0⟩ : Zd))⟩ : Signed))), (Z15 a118 (Zw (⟨(Z5 from_ (f + 1)) + (i : Int), x.cl, x.seq, x.h, 5, 0, 0⟩ : Zd)) c119), Zb 101 38 (.slice (some ⟨b132, 0, none⟩) 1 1) 1 ([(⟨(Z5 from_ (f + 1)) + (i : Int), x.cl, x.seq, x.h, 5, (Z5 from_ (f + 1)) + (i : Int), Zt (Zg L1 (⟨(Z5 from_ (f + 1)) + (i : Int), (Zw (⟨(Z5 from_ (f + 1)) + (i : Int), x.cl, x.seq, x.h, 5, 0, 0⟩ : Zd))⟩ : Signed)) (⟨(Z5 from_ (f + 1)) + (i : Int), (Zw (⟨(Z5 from_ (f + 1)) + (i : Int), x.cl, x.seq, x.h, 5, 0, 0⟩ : Zd))⟩ : Signed)⟩ : Zd)].flatMap Z0l)] w138)
  have H142 := H139.ct 8 rfl (Zb 101 38 v137 ((D ++ [(⟨(Z5 from_ (f + 1)) + (i : Int), x.cl, x.seq, x.h, 5, (Z5 from_ (f + 1)) + (i : Int), Zt (Zg L1 (⟨(Z5 from_ (f + 1)) + (i : Int), (Zw (⟨(Z5 from_ (f + 1)) + (i : Int), x.cl, x.seq, x.h, 5, 0, 0⟩ : Zd))⟩ : Signed)) (⟨(Z5 from_ (f + 1)) + (i : Int), (Zw (⟨(Z5 from_ (f + 1)) + (i : Int), x.cl, x.seq, x.h, 5, 0, 0⟩ : Zd))⟩ : Signed)⟩ : Zd)]).length) ((D ++ [(⟨(Z5 from_ (f + 1)) + (i : Int), x.cl, x.seq, x.h, 5, (Z5 from_ (f + 1)) + (i : Int), Zt (Zg L1 (⟨(Z5 from_ (f + 1)) + (i : Int), (Zw (⟨(Z5 from_ (f + 1)) + (i : Int), x.cl, x.seq, x.h, 5, 0, 0⟩ : Zd))⟩ : Signed)) (⟨(Z5 from_ (f + 1)) + (i : Int), (Zw (⟨(Z5 from_ (f + 1)) + (i : Int), x.cl, x.seq, x.h, 5, 0, 0⟩ : Zd))⟩ : Signed)⟩ : Zd)]).flatMap Z0l)) ja
  obtain ⟨a140, c141, rfl⟩ := Zl (H142.at 8 rfl)
  refine kq _ _ ?_
  clear kq Kq
  refine wv 61 (pt b18 37) ?_
  refine zwd fun Kq kq => ?_
  refine zds ([(.slice a140 ((D ++ [(⟨(Z5 from_ (f + 1)) + (i : Int), x.cl, x.seq, x.h, 5, (Z5 from_ (f + 1)) + (i : Int), Zt (Zg L1 (⟨(Z5 from_ (f + 1)) + (i : Int), (Zw (⟨(Z5 from_ (f + 1)) + (i : Int), x.cl, x.seq, x.h, 5, 0, 0⟩ : Zd))⟩ : Signed)) (⟨(Z5 from_ (f + 1)) + (i : Int), (Zw (⟨(Z5 from_ (f + 1)) + (i : Int), x.cl, x.seq, x.h, 5, 0, 0⟩ : Zd))⟩ : Signed)⟩ : Zd)]).length) c141)] : List Value) (Z0p x a140 ((D ++ [(⟨(Z5 from_ (f + 1)) + (i : Int), x.cl, x.seq, x.h, 5, (Z5 from_ (f + 1)) + (i : Int), Zt (Zg L1 (⟨(Z5 from_ (f + 1)) + (i : Int), (Zw (⟨(Z5 from_ (f + 1)) + (i : Int), x.cl, x.seq, x.h, 5, 0, 0⟩ : Zd))⟩ : Signed)) (⟨(Z5 from_ (f + 1)) + (i : Int), (Zw (⟨(Z5 from_ (f + 1)) + (i : Int), x.cl, x.seq, x.h, 5, 0, 0⟩ : Zd))⟩ : Signed)⟩ : Zd)]).length) c141) H142 7 ?_
  intro w144 (H145 : Sat w [Z3 b 110 (Z0E mb), (ZV mb (Zg L1 (⟨(Z5 from_ (f + 1)) + (i : Int), (Zw (⟨(Z5 from_ (f + 1)) + (i : Int), x.cl, x.seq, x.h, 5, 0, 0⟩ : Zd))⟩ : Signed))), Z6 w (ZH [Z3 b 110 [.map (some mb)], (ZV mb L)]).fp, Z3 b2 40 (Z0u b r), Z3 b6 36 (Z0n f cn), Z3 b10 50 (Z0x x), Z3 b14 53 (Z0A), Z3 b18 53 (Z0p x a140 ((D ++ [(⟨(Z5 from_ (f + 1)) + (i : Int), x.cl, x.seq, x.h, 5, (Z5 from_ (f + 1)) + (i : Int), Zt (Zg L1 (⟨(Z5 from_ (f + 1)) + (i : Int), (Zw (⟨(Z5 from_ (f + 1)) + (i : Int), x.cl, x.seq, x.h, 5, 0, 0⟩ : Zd))⟩ : Signed)) (⟨(Z5 from_ (f + 1)) + (i : Int), (Zw (⟨(Z5 from_ (f + 1)) + (i : Int), x.cl, x.seq, x.h, 5, 0, 0⟩ : Zd))⟩ : Signed)⟩ : Zd)]).length) c141), (Z0J a140 (D ++ [(⟨(Z5 from_ (f + 1)) + (i : Int), x.cl, x.seq, x.h, 5, (Z5 from_ (f + 1)) + (i : Int), Zt (Zg L1 (⟨(Z5 from_ (f + 1)) + (i : Int), (Zw (⟨(Z5 from_ (f + 1)) + (i : Int), x.cl, x.seq, x.h, 5, 0, 0⟩ : Zd))⟩ : Signed)) (⟨(Z5 from_ (f + 1)) + (i : Int), (Zw (⟨(Z5 from_ (f + 1)) + (i : Int), x.cl, x.seq, x.h, 5, 0, 0⟩ : Zd))⟩ : Signed)⟩ : Zd)]) c141), Z3 b101 101 (Z1c ((Z5 from_ (f + 1)) + (i : Int)) x (Zt (Zg L1 (⟨(Z5 from_ (f + 1)) + (i : Int), (Zw (⟨(Z5 from_ (f + 1)) + (i : Int), x.cl, x.seq, x.h, 5, 0, 0⟩ : Zd))⟩ : Signed)) (⟨(Z5 from_ (f + 1)) + (i : Int), (Zw (⟨(Z5 from_ (f + 1)) + (i : Int), x.cl, x.seq, x.h, 5, 0, 0⟩ : Zd))⟩ : Signed))), (Z15 a118 (Zw (⟨(Z5 from_ (f + 1)) + (i : Int), x.cl, x.seq, x.h, 5, 0, 0⟩ : Zd)) c119), Zb 101 38 (.slice (some ⟨b132, 0, none⟩) 1 1) 1 ([(⟨(Z5 from_ (f + 1)) + (i : Int), x.cl, x.seq, x.h, 5, (Z5 from_ (f + 1)) + (i : Int), Zt (Zg L1 (⟨(Z5 from_ (f + 1)) + (i : Int), (Zw (⟨(Z5 from_ (f + 1)) + (i : Int), x.cl, x.seq, x.h, 5, 0, 0⟩ : Zd))⟩ : Signed)) (⟨(Z5 from_ (f + 1)) + (i : Int), (Zw (⟨(Z5 from_ (f + 1)) + (i : Int), x.cl, x.seq, x.h, 5, 0, 0⟩ : Zd))⟩ : Signed)⟩ : Zd)].flatMap Z0l)] w144)
  refine kq _ _ ?_
  clear kq Kq
  apply Zm
  apply ZL
  apply ztn
  apply Zp
  refine wv 26 (.int .i64 ((i : Int))) ?_
  refine zwi 27 ((i : Int) + 1) ?_
  refine wv 12 (.int .i64 ((i : Int) + 1)) ?_
  apply Zm
  have hok2 : ∀ s ∈ (D ++ [(⟨(Z5 from_ (f + 1)) + (i : Int), x.cl, x.seq, x.h, 5, (Z5 from_ (f + 1)) + (i : Int), Zt (Zg L1 (⟨(Z5 from_ (f + 1)) + (i : Int), (Zw (⟨(Z5 from_ (f + 1)) + (i : Int), x.cl, x.seq, x.h, 5, 0, 0⟩ : Zd))⟩ : Signed)) (⟨(Z5 from_ (f + 1)) + (i : Int), (Zw (⟨(Z5 from_ (f + 1)) + (i : Int), x.cl, x.seq, x.h, 5, 0, 0⟩ : Zd))⟩ : Signed)⟩ : Zd)]), StB s := fun s hs => by
   rcases List.mem_append.1 hs with h | h
   ·exact hok s h
   rw [List.mem_singleton.1 h]
   have q1 := (Z1u (Z1L L1 (⟨(Z5 from_ (f + 1)) + (i : Int), (Zw (⟨(Z5 from_ (f + 1)) + (i : Int), x.cl, x.seq, x.h, 5, 0, 0⟩ : Zd))⟩ : Signed))).2
   have q2 := Z0w L1 (⟨(Z5 from_ (f + 1)) + (i : Int), (Zw (⟨(Z5 from_ (f + 1)) + (i : Int), x.cl, x.seq, x.h, 5, 0, 0⟩ : Zd))⟩ : Signed)
   exact ⟨⟨by show Z5 from_ (f + 1) + (i : Int) ≤ _; omega, hx.1, hx.2.1, by show 0 ≤ 5; omega, by show 5 < _; omega⟩, by show Z5 from_ (f + 1) + (i : Int) ≤ _; omega, by show Zt (Zg L1 (⟨(Z5 from_ (f + 1)) + (i : Int), (Zw (⟨(Z5 from_ (f + 1)) + (i : Int), x.cl, x.seq, x.h, 5, 0, 0⟩ : Zd))⟩ : Signed)) (⟨(Z5 from_ (f + 1)) + (i : Int), (Zw (⟨(Z5 from_ (f + 1)) + (i : Int), x.cl, x.seq, x.h, 5, 0, 0⟩ : Zd))⟩ : Signed) ≤ _; omega⟩
  have H147 := H145.pk [0, 1, 2, 3, 4, 5, 6, 7, 8]
  refine ZM ?_ _ ⟨(i + 1), a140, c141, (D ++ [(⟨(Z5 from_ (f + 1)) + (i : Int), x.cl, x.seq, x.h, 5, (Z5 from_ (f + 1)) + (i : Int), Zt (Zg L1 (⟨(Z5 from_ (f + 1)) + (i : Int), (Zw (⟨(Z5 from_ (f + 1)) + (i : Int), x.cl, x.seq, x.h, 5, 0, 0⟩ : Zd))⟩ : Signed)) (⟨(Z5 from_ (f + 1)) + (i : Int), (Zw (⟨(Z5 from_ (f + 1)) + (i : Int), x.cl, x.seq, x.h, 5, 0, 0⟩ : Zd))⟩ : Signed)⟩ : Zd)]), (Zg L1 (⟨(Z5 from_ (f + 1)) + (i : Int), (Zw (⟨(Z5 from_ (f + 1)) + (i : Int), x.cl, x.seq, x.h, 5, 0, 0⟩ : Zd))⟩ : Signed)), rfl, (by omega), hok2, (Z0v hnd _), (by have q2 := Z0w L1 (⟨(Z5 from_ (f + 1)) + (i : Int), (Zw (⟨(Z5 from_ (f + 1)) + (i : Int), x.cl, x.seq, x.h, 5, 0, 0⟩ : Zd))⟩ : Signed); omega), (by simp only [List.length_append, List.length_cons, List.length_nil]; omega), H147, rfl⟩ (by omega)
  exact zs
 have g148 := of_decide_eq_false b39
 refine zwkf _ b39 ?_
 apply zxb
 apply ztn
 apply zsl
 refine zwN 62 (Z0p x da D.length dc) (H37.at 7 rfl) ?_
 refine zwd fun Kq kq => ?_
 refine Z6T (Z0p x da D.length dc) H37 6 ?_
 intro w151 (H152 : Sat w [Z3 b 110 (Z0E mb), (ZV mb L1), Z6 w (ZH [Z3 b 110 [.map (some mb)], (ZV mb L)]).fp, Z3 b2 40 (Z0u b r), Z3 b6 36 (Z0n f cn), Z3 b10 50 (Z0x x), Z3 b14 53 (Z0p x da D.length dc), Z3 b18 53 (Z0p x da D.length dc), (Z0J da D dc)] w151)
 refine kq _ _ ?_
 clear kq Kq
 apply znt
 apply ZY
 refine Z0O rfl (Z0i (vs := (Z0p x da D.length dc)) rfl (by kernel_rfl) (by kernel_rfl) (by exact Nat.le_of_ble_eq_true (by kernel_rfl)) (H152.at 6 rfl) (by kernel_rfl)) ?_
 exact ⟨L1, da, dc, D, rfl, by omega, hok, hnd, by omega, H152.pk [0, 1, 8, 2]⟩
end Go.Proofs.YtoaifondpohniaaGreat
