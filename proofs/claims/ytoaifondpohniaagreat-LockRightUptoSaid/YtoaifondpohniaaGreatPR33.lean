/- WHAT IS PROVED: contracts and plain laws of CertG, RgP. Conditions: stated with each. -/
import Derived.Test.YtoaifondpohniaaGreatPR04
import Derived.Test.YtoaifondpohniaaGreatPR15
import Derived.Test.YtoaifondpohniaaGreatPR17
import Derived.Test.YtoaifondpohniaaGreatPR19
import Derived.Test.YtoaifondpohniaaGreatPR21
import Derived.Test.YtoaifondpohniaaGreatPR24
import Derived.Test.YtoaifondpohniaaGreatPR25
import Derived.Test.YtoaifondpohniaaGreatPR28
import Derived.Test.YtoaifondpohniaaGreatPR32
set_option maxHeartbeats 4000000
set_option maxRecDepth 100000
namespace Go.Proofs.YtoaifondpohniaaGreat
open Go.RowKit
abbrev Z6H (p0 : Nat) : List Value := ([(.map (some p0))] : List Value)
abbrev Z6I (p0 : Nat) (p1 : List Signed) : Ck := Z3d p0 Z0e (Value.int .i64) (Z04 p1)
abbrev Z4q (p0 : Option Addr) (p1 : Nat) (p2 : Nat) : List Value := ([(.slice p0 p1 p2)] : List Value)
abbrev Z6J (p0 : Option Addr) (p1 : List Signed) (p2 : Nat) : Ck := ZH 114 2 (.slice p0 p1.length p2) p1.length (p1.flatMap Z43)
abbrev Z29 (p0 : Nat) (p1 : Nat) : List Value := ([(pt p0 0), (pt p1 0)] : List Value)
abbrev Z38 (p0 : Int) (p1 : Int) : List Value := ([(.int .i64 p0), (.int .i64 p1)] : List Value)
abbrev Z1V (p0 : Zg) : List Value := ([(.int .i64 p0.cl), (.int .i64 p0.seq)] : List Value) ++ hc p0.h ++ ([(.int .i64 p0.len), (.int .i64 p0.sb), (.int .i64 p0.sm)] : List Value)
abbrev Z39 : List Value := ([(.int .i64 (0)), (.int .i64 (0))] : List Value) ++ hc Z0d ++ ([(.int .i64 (0)), (.int .i64 (0)), (.int .i64 (0)), (.slice none 0 0)] : List Value)
abbrev Z8P (p0 : Zg) : List Value := ([(.int .i64 p0.cl), (.int .i64 p0.seq)] : List Value) ++ hc p0.h ++ ([(.int .i64 p0.len), (.int .i64 p0.sb), (.int .i64 p0.sm), (.slice none 0 0)] : List Value)
abbrev Z2E (p0 : Zg) (p1 : Option Addr) (p2 : Nat) (p3 : Nat) : List Value := ([(.int .i64 p0.cl), (.int .i64 p0.seq)] : List Value) ++ hc p0.h ++ ([(.int .i64 p0.len), (.int .i64 p0.sb), (.int .i64 p0.sm), (.slice p1 p2 p3)] : List Value)
abbrev Za9 (p0 : Option Addr) (p1 : List Z5) (p2 : Nat) : Ck := ZH 101 38 (.slice p0 p1.length p2) p1.length (p1.flatMap Z0J)
abbrev Z2Y (p0 : Z5) : List Value := ([(.int .i64 p0.r), (.int .i64 p0.cl), (.int .i64 p0.seq)] : List Value) ++ hc p0.h ++ ([(.int .u64 p0.t), (.int .i64 p0.sb), (.int .i64 p0.sm)] : List Value)
theorem Z41 (w : World) (b mb r : Nat) (a : Option Addr) (c : Nat) (L : List Signed) (hB : (Z0c (Z1z b mb r a c L)).ok w) (f cn : Int) (hf : 1 ≤ f ∧ f ≤ 5) (x : Zg) (hx : ZbL x) (from_ : Int) (hL : L.length ≤ 1000) (hn : L.Nodup) (va : Option Addr) (vc : Nat) (xs : List Int) (hxs : ListAt Z3s 1 w (.slice va xs.length vc) xs) (hbd : ∀ x ∈ xs, 0 ≤ x ∧ x ≤ 18446744073709551615) (hva : 0 < xs.length → ∀ ad, va = some ad → ¬ (Z0c (Z1z b mb r a c L)).fp ad.block) :
  Calls Tryz.prog 9 #[(.agg ⟨([(.pointer (some ⟨b, 0, none⟩)), (.pointer (some ⟨r, 0, none⟩))] : List Value)⟩), (.agg ⟨([(.int .i64 (f)), (.int .i64 (cn))] : List Value)⟩), (.agg ⟨(([(.int .i64 (x.cl)), (.int .i64 (x.seq))] : List Value) ++ hc x.h ++ ([(.int .i64 (x.len)), (.int .i64 (x.sb)), (.int .i64 (x.sm))] : List Value))⟩), (.int .i64 (from_)), (.slice va xs.length vc)] w fun e w' => ∃ (ra : Option Addr) (rc : Nat) (L1 : List Signed) (da : Option Addr) (dc : Nat) (D : List Z5), e = .returned (.agg ⟨Z61 x ++ [.slice da D.length dc]⟩) ∧ (D.length : Int) = 2 * f + 1 ∧ (∀ s ∈ D, StB s) ∧ L1.Nodup ∧ L1.length ≤ L.length + 11 ∧ L <+: L1 ∧ SgT (3 * f + 1) L L1 ∧ Sat w [Z0 b 110 [.map (some mb)], Z3d mb Z0e (Value.int .i64) (Z04 L1), Z0 r 98 [.slice ra (L1).length rc], ZH 114 2 (.slice ra (L1).length rc) (L1).length ((L1).flatMap Z43), ZH 101 38 (.slice da D.length dc) D.length (D.flatMap Z0J), Z6 w (Z0c (Z1z b mb r a c L)).fp] w' := by
 have hwf := Z33 from_ (f + 1) (by omega)
 obtain ⟨Q, hQ⟩ : ∃ Q : Nat, (Q : Int) = 2 * f + 1 := ⟨(2 * f + 1).toNat, by omega⟩
 have H := Sat.start (Z1z b mb r a c L) hB
 refine Zp Tryz.func9 rfl 50 rfl (Nat.le_of_ble_eq_true rfl) ?_
 apply zsl
 refine zwd fun Kq kq => ?_
 refine zdb (Z29 b r) H ?_
 intro b2 w3 H4
 refine kq _ _ ?_
 clear kq Kq
 refine zwd fun Kq kq => ?_
 refine zdb (Z38 f cn) H4 ?_
 intro b6 w7 H8
 refine kq _ _ ?_
 clear kq Kq
 refine zwd fun Kq kq => ?_
 refine zdb (Z1V x) H8 ?_
 intro b10 w11 H12
 refine kq _ _ ?_
 clear kq Kq
 refine zwd fun Kq kq => ?_
 refine zda (Z39) H12 ?_
 intro b14 w15 H16
 refine kq _ _ ?_
 clear kq Kq
 apply Z1y
 refine zwN 14 (Z1V x) (H16.at 7 rfl) ?_
 refine wv 15 (.agg ⟨(Z8P x)⟩) ?_
 refine zwd fun Kq kq => ?_
 refine zda (Z39) H16 ?_
 intro b18 w19 H20
 refine kq _ _ ?_
 clear kq Kq
 refine zwd fun Kq kq => ?_
 refine Z2k (Z8P x) H20 9 ?_
 intro w22 H23
 refine kq _ _ ?_
 clear kq Kq
 apply Z1y
 refine wv 16 (.int .i64 (from_)) ?_
 refine wv 17 (pt b6 0) ?_
 refine zw1 18 (.int .i64 (f)) (H23.cell 6 rfl rfl) ?_
 refine zwi 19 (f + 1) ?_
 refine zwd fun Kq kq => ?_
 refine zdq 20 (Z1F w22 from_ (f + 1) (by omega)) H23 ?_
 intro w26 H27
 refine kq _ _ ?_
 clear kq Kq
 refine wv 3 (.int .i64 (Z8 from_ (f + 1))) ?_
 apply znt
 apply Zt
 apply zsl
 refine wv 12 (.int .i64 (0)) ?_
 apply znt
 apply ZG
 have H29 := H27.addNil 101 38
 refine Z02 ([12, 13] ++ List.range' 21 28) (fun F_ W_ m_ => ∃ (i : Nat) (da : Option Addr) (dc : Nat) (D : List Z5) (ra : Option Addr) (rc : Nat) (L1 : List Signed), F_ 12 = (.int .i64 ((i : Int))) ∧ (i ≤ Q) ∧ (∀ s ∈ D, StB s) ∧ (L1.Nodup) ∧ (L1.length ≤ L.length + i) ∧ (D.length = i) ∧ (L <+: L1) ∧ (SgT (3 * f + 1) L L1) ∧ Sat w [Z0 b 110 (Z6H mb), (Z6I mb L1), Z0 r 98 (Z4q ra L1.length rc), (Z6J ra L1 rc), Z6 w (Z0c (Z1z b mb r a c L)).fp, Z0 b2 40 (Z29 b r), Z0 b6 36 (Z38 f cn), Z0 b10 50 (Z1V x), Z0 b14 53 (Z39), Z0 b18 53 (Z2E x da D.length dc), (Za9 da D dc)] W_ ∧ m_ = Q - i) _ ⟨0, none, 0, [], a, c, L, (show ((.int .i64 (0)) : Value) = _ by first | rfl | go_num), (Nat.zero_le _), (by simp), hn, (by omega), rfl, (List.prefix_refl _), SgT.nil, H29, rfl⟩ ?_
 rintro g30 w31 _ ⟨i, da, dc, D, ra, rc, L1, v33, hin, hok, hnd, hLl, hDl, hpre, hrs, H32, rfl⟩
 refine ZF 12 _ v33 ?_
 apply Zt
 apply zsl
 refine wv 21 (.int .i64 ((i : Int))) ?_
 refine zwN 22 (Z38 f cn) (H32.at 6 rfl) ?_
 refine zwd fun Kq kq => ?_
 refine zdq 23 (ZaG w31 f cn (by omega)) H32 ?_
 intro w36 H37
 refine kq _ _ ?_
 clear kq Kq
 refine wv 24 (.bool (decide ((i : Int) < (2 * f + 1)))) ?_
 apply znt
 refine (Zl (decide ((i : Int) < (2 * f + 1)))).elim (fun b39 => ?_) (fun b39 => ?_)
 ·have g40 := of_decide_eq_true b39
  refine Z1o _ b39 ?_
  apply ZL
  apply ztn
  apply Zt
  apply ZG
  apply zsl
  refine wv 13 (.int .u64 (5)) ?_
  apply znt
  apply Zt
  apply zsl
  refine wv 27 (.int .i64 ((i : Int))) ?_
  refine wv 28 (.slice va xs.length vc) ?_
  refine wv 29 (.int .i64 ((xs.length : Int))) ?_
  refine wv 30 (.bool (decide ((i : Int) < (xs.length : Int)))) ?_
  apply znt
  refine (Zl (decide ((i : Int) < (xs.length : Int)))).elim (fun b42 => ?_) (fun b42 => ?_)
  ·have g43 := of_decide_eq_true b42
   refine Z1o _ b42 ?_
   have hx0 : 0 ≤ xs.getD i 0 := (hbd _ (Za7 (by omega))).1
   apply ZU
   refine wv 31 (.slice va xs.length vc) ?_
   refine wv 32 (.int .i64 ((i : Int))) ?_
   obtain ⟨g45, o46, c47, e48, R49⟩ := SliceOf.atD hxs 0 (show i < xs.length by omega)
   refine wv 33 (.pointer (some ⟨g45, o46 + ((i : Int)).toNat * 1, none⟩)) ?_ (hr := ZC (E := 27) (by kernel_rfl) (by kernel_rfl) (Nat.le_of_ble_eq_true rfl) rfl e48 rfl (by omega) (by omega))
   refine zw1 34 (.int .u64 ((xs.getD i 0))) (H37.cellR 4 rfl (Z13 R49 0 (by kernel_rfl) (show o46 + ((i : Int)).toNat * 1 = o46 + i * 1 + 0 by omega)) (by have hq := hva (by omega) _ (Z8u e48); exact hq)) ?_
   refine wv 35 (.int .u64 ((xs.getD i 0) % 1000)) ?_ (hr := Z9W (by kernel_rfl) (by omega) (by omega))
   refine wv 36 (.int .u64 (1 + ((xs.getD i 0) % 1000))) ?_ (hr := Z0I (z := 1 + ((xs.getD i 0) % 1000)) (by kernel_rfl) (Z2m (by omega)))
   refine wv 13 (.int .u64 (1 + ((xs.getD i 0) % 1000))) ?_
   apply znt
   refine Z1k H37 [Z6 w (Z0c (Z1z b mb r a c L)).fp, Z0 b2 40 (Z29 b r), Z0 b6 36 (Z38 f cn), Z0 b10 50 (Z1V x), Z0 b14 53 (Z39), Z0 b18 53 (Z2E x da D.length dc)] [12] 13 rfl (by kernel_rfl) (fun Hx => (Hx.pk [4, 5, 6, 7, 8, 9])) ?_
   intro w50 H51 S52
   refine zkp 0 S52 37 (pt b18 37) ?_
   refine zkv 1 S52 38 (.slice da D.length dc) ?_ (he := fun _ H' => (Z2 rfl (by kernel_rfl) (H'.cell 5 rfl (by kernel_rfl))))
   refine zkv 2 S52 39 (.agg ⟨(Z29 b r)⟩) ?_ (he := fun _ H' => (Zc (vs := (Z29 b r)) rfl (by kernel_rfl) (by kernel_rfl) (by exact Nat.le_of_ble_eq_true (by kernel_rfl)) (H'.at 1 rfl) (by kernel_rfl)))
   refine zkp 3 S52 40 (.int .i64 (Z8 from_ (f + 1))) ?_
   refine zkp 4 S52 41 (.int .i64 ((i : Int))) ?_
   refine zkp 5 S52 42 (.int .i64 ((Z8 from_ (f + 1)) + (i : Int))) ?_ (he := fun _ => (Z0I (z := (Z8 from_ (f + 1)) + (i : Int)) (by kernel_rfl) (IntWalk.i64_in _ (by omega))))
   refine zkv 6 S52 43 (.agg ⟨(Z1V x)⟩) ?_ (he := fun _ H' => (Zc (vs := (Z1V x)) rfl (by kernel_rfl) (by kernel_rfl) (by exact Nat.le_of_ble_eq_true (by kernel_rfl)) (H'.at 3 rfl) (by kernel_rfl)))
   refine zkp 7 S52 44 (.int .u64 (1 + ((xs.getD i 0) % 1000))) ?_
   refine Z3p 8 fun Kq kq => ?_
   refine zdc 45 (Z5p w50 b mb r ra rc L1 (H51.fn [0, 1, 2, 3]) ((Z8 from_ (f + 1)) + (i : Int)) x (1 + ((xs.getD i 0) % 1000)) (by omega) hx (by omega) (by omega) hnd) ?_
   rintro _ w54 ⟨a56, c57, rfl, T55⟩
   obtain ⟨L59, hL59⟩ : ∃ L59 : List Signed, L59 = Zk L1 (yS ((Z8 from_ (f + 1)) + (i : Int)) x (1 + ((xs.getD i 0) % 1000))) := ⟨_, rfl⟩
   rw [← hL59] at T55
   have H60 := H51.tl [Z0 b 110 (Z6H mb), (Z6I mb L59), Z0 r 98 (Z4q a56 L59.length c57), (Z6J a56 L59 c57)] [0, 1, 2, 3] [4, 5, 6, 7, 8, 9, 10] T55 [0, 1, 2, 3, 4, 5, 6, 7, 8, 9, 10]
   refine ⟨_, rfl, ?_⟩
   obtain ⟨S58, hS58⟩ : ∃ S58 : Z5, S58 = mkS L1 ((Z8 from_ (f + 1)) + (i : Int)) x (1 + ((xs.getD i 0) % 1000)) := ⟨_, rfl⟩
   rw [← hS58]
   have ndL59 : L59.Nodup := by rw [hL59]; exact Z1S hnd _
   have llL59 : L59.length ≤ L1.length + 1 := by rw [hL59]; exact Z20 _ _
   have S61 := H60.pk [4, 5, 6, 7, 8, 9]
   refine kq _ _ S61 ?_
   clear kq Kq
   refine Z3p 9 fun Kq kq => ?_
   refine Z3o 101 38 80 (.agg ⟨(([(.int .i64 (0)), (.int .i64 (0)), (.int .i64 (0))] : List Value) ++ hc Z0d ++ ([(.int .u64 (0)), (.int .i64 (0)), (.int .i64 (0))] : List Value))⟩) [(0, (.agg ⟨(Z2Y S58)⟩))] (Z2Y S58) H60 ?_
   intro b63 w64 H65
   have H66 := H65.ct 11 rfl (ZH 101 38 (.slice (some ⟨b63, 0, none⟩) 1 1) 1 ([S58].flatMap Z0J)) (by rw [(show ((Z2Y S58) : List Value) = [S58].flatMap Z0J by kernel_rfl)])
   have S67 := H66.pk [4, 5, 6, 7, 8, 9]
   refine kq _ _ S67 ?_
   clear kq Kq
   refine Z3p 10 fun Kq kq => ?_
   refine Z14 (T := 51) (e := 101) (size := 38) (bytes := 80) rfl H66 (by kernel_rfl) 10 11 rfl rfl rfl rfl (Z0U Z0J Z5t [S58]) (by omega) (by omega) ?_
   intro v69 w70 H71
   have H74 := H71.ct 10 rfl (ZH 101 38 v69 ((D ++ [S58]).length) ((D ++ [S58]).flatMap Z0J)) ja
   obtain ⟨a72, c73, rfl⟩ := Z1 (H74.at 10 rfl)
   have S75 := H74.pk [4, 5, 6, 7, 8, 9]
   refine kq _ _ S75 ?_
   clear kq Kq
   refine zkp 11 S75 48 (pt b18 37) ?_
   refine Z30 12 (Sat w [Z6 w (Z0c (Z1z b mb r a c L)).fp, Z0 b2 40 (Z29 b r), Z0 b6 36 (Z38 f cn), Z0 b10 50 (Z1V x), Z0 b14 53 (Z39)]) rfl (by kernel_rfl) (Zs rfl) rfl (fun Kq kq => ?_)
   refine zds (Z4q a72 ((D ++ [S58]).length) c73) (Z2E x a72 ((D ++ [S58]).length) c73) H74 9 ?_
   intro w77 H78
   have S80 := H78.pk [4, 5, 6, 7, 8]
   refine kq _ _ S80 ?_
   clear kq Kq
   refine zhf ?_
   apply Zq
   apply ztn
   apply ZU
   refine wv 25 (.int .i64 ((i : Int))) ?_
   refine zwi 26 ((i : Int) + 1) ?_
   refine wv 12 (.int .i64 ((i : Int) + 1)) ?_
   apply ZQ
   have hok2 : ∀ s ∈ (D ++ [S58]), StB s := fun s hs => by
    rcases List.mem_append.1 hs with h | h
    ·exact hok s h
    rw [List.mem_singleton.1 h, hS58]; exact ⟨⟨by show Z8 from_ (f + 1) + (i : Int) ≤ _; omega, hx.1, hx.2.1, by show 0 ≤ (1 + ((xs.getD i 0) % 1000)); omega, by show (1 + ((xs.getD i 0) % 1000)) < _; omega⟩, by show Z8 from_ (f + 1) + (i : Int) ≤ _; omega, by have q1 := (Z2n (Z3y L1 (yS (Z8 from_ (f + 1) + (i : Int)) x (1 + ((xs.getD i 0) % 1000))))).2; have q2 := Z20 L1 (yS (Z8 from_ (f + 1) + (i : Int)) x (1 + ((xs.getD i 0) % 1000))); show Zu _ _ ≤ _; omega⟩
   have H81 := H78.pk [0, 1, 2, 3, 4, 5, 6, 7, 8, 9, 10]
   refine Zw ?_ _ ⟨(i + 1), a72, c73, (D ++ [S58]), a56, c57, L59, rfl, (by omega), hok2, ndL59, (by omega), (by simp only [List.length_append, List.length_cons, List.length_nil]; omega), (by rw [hL59]; exact hpre.trans (by unfold Zk; split; exact List.prefix_refl _; exact List.prefix_append _ _)), (by rw [hL59]; exact hrs.step ⟨by omega, by omega⟩), H81, rfl⟩ (by omega)
   exact zs
  have g82 := of_decide_eq_false b42
  refine Z18 _ b42 ?_
  apply ZL
  apply ztn
  refine Z1k H37 [Z6 w (Z0c (Z1z b mb r a c L)).fp, Z0 b2 40 (Z29 b r), Z0 b6 36 (Z38 f cn), Z0 b10 50 (Z1V x), Z0 b14 53 (Z39), Z0 b18 53 (Z2E x da D.length dc)] [12] 13 rfl (by kernel_rfl) (fun Hx => (Hx.pk [4, 5, 6, 7, 8, 9])) ?_
  intro w84 H85 S86
  refine zkp 0 S86 37 (pt b18 37) ?_
  refine zkv 1 S86 38 (.slice da D.length dc) ?_ (he := fun _ H' => (Z2 rfl (by kernel_rfl) (H'.cell 5 rfl (by kernel_rfl))))
  refine zkv 2 S86 39 (.agg ⟨(Z29 b r)⟩) ?_ (he := fun _ H' => (Zc (vs := (Z29 b r)) rfl (by kernel_rfl) (by kernel_rfl) (by exact Nat.le_of_ble_eq_true (by kernel_rfl)) (H'.at 1 rfl) (by kernel_rfl)))
  refine zkp 3 S86 40 (.int .i64 (Z8 from_ (f + 1))) ?_
  refine zkp 4 S86 41 (.int .i64 ((i : Int))) ?_
  refine zkp 5 S86 42 (.int .i64 ((Z8 from_ (f + 1)) + (i : Int))) ?_ (he := fun _ => (Z0I (z := (Z8 from_ (f + 1)) + (i : Int)) (by kernel_rfl) (IntWalk.i64_in _ (by omega))))
  refine zkv 6 S86 43 (.agg ⟨(Z1V x)⟩) ?_ (he := fun _ H' => (Zc (vs := (Z1V x)) rfl (by kernel_rfl) (by kernel_rfl) (by exact Nat.le_of_ble_eq_true (by kernel_rfl)) (H'.at 3 rfl) (by kernel_rfl)))
  refine zkp 7 S86 44 (.int .u64 (5)) ?_
  refine Z3p 8 fun Kq kq => ?_
  refine zdc 45 (Z5p w84 b mb r ra rc L1 (H85.fn [0, 1, 2, 3]) ((Z8 from_ (f + 1)) + (i : Int)) x (5 : Int) (by omega) hx (by omega) (by omega) hnd) ?_
  rintro _ w88 ⟨a90, c91, rfl, T89⟩
  obtain ⟨L93, hL93⟩ : ∃ L93 : List Signed, L93 = Zk L1 (yS ((Z8 from_ (f + 1)) + (i : Int)) x (5 : Int)) := ⟨_, rfl⟩
  rw [← hL93] at T89
  have H94 := H85.tl [Z0 b 110 (Z6H mb), (Z6I mb L93), Z0 r 98 (Z4q a90 L93.length c91), (Z6J a90 L93 c91)] [0, 1, 2, 3] [4, 5, 6, 7, 8, 9, 10] T89 [0, 1, 2, 3, 4, 5, 6, 7, 8, 9, 10]
  refine ⟨_, rfl, ?_⟩
  obtain ⟨S92, hS92⟩ : ∃ S92 : Z5, S92 = mkS L1 ((Z8 from_ (f + 1)) + (i : Int)) x (5 : Int) := ⟨_, rfl⟩
  rw [← hS92]
  have ndL93 : L93.Nodup := by rw [hL93]; exact Z1S hnd _
  have llL93 : L93.length ≤ L1.length + 1 := by rw [hL93]; exact Z20 _ _
  have S95 := H94.pk [4, 5, 6, 7, 8, 9]
  refine kq _ _ S95 ?_
  clear kq Kq
  refine Z3p 9 fun Kq kq => ?_
  refine Z3o 101 38 80 (.agg ⟨(([(.int .i64 (0)), (.int .i64 (0)), (.int .i64 (0))] : List Value) ++ hc Z0d ++ ([(.int .u64 (0)), (.int .i64 (0)), (.int .i64 (0))] : List Value))⟩) [(0, (.agg ⟨(Z2Y S92)⟩))] (Z2Y S92) H94 ?_
  intro b97 w98 H99
  have H100 := H99.ct 11 rfl (ZH 101 38 (.slice (some ⟨b97, 0, none⟩) 1 1) 1 ([S92].flatMap Z0J)) (by rw [(show ((Z2Y S92) : List Value) = [S92].flatMap Z0J by kernel_rfl)])
  have S101 := H100.pk [4, 5, 6, 7, 8, 9]
  refine kq _ _ S101 ?_
  clear kq Kq
  refine Z3p 10 fun Kq kq => ?_
  refine Z14 (T := 51) (e := 101) (size := 38) (bytes := 80) rfl H100 (by kernel_rfl) 10 11 rfl rfl rfl rfl (Z0U Z0J Z5t [S92]) (by omega) (by omega) ?_
  intro v103 w104 H105
  have H108 := H105.ct 10 rfl (ZH 101 38 v103 ((D ++ [S92]).length) ((D ++ [S92]).flatMap Z0J)) ja
  obtain ⟨a106, c107, rfl⟩ := Z1 (H108.at 10 rfl)
  have S109 := H108.pk [4, 5, 6, 7, 8, 9]
  refine kq _ _ S109 ?_
  clear kq Kq
  refine zkp 11 S109 48 (pt b18 37) ?_
  refine Z30 12 (Sat w [Z6 w (Z0c (Z1z b mb r a c L)).fp, Z0 b2 40 (Z29 b r), Z0 b6 36 (Z38 f cn), Z0 b10 50 (Z1V x), Z0 b14 53 (Z39)]) rfl (by kernel_rfl) (Zs rfl) rfl (fun Kq kq => ?_)
  refine zds (Z4q a106 ((D ++ [S92]).length) c107) (Z2E x a106 ((D ++ [S92]).length) c107) H108 9 ?_
  intro w111 H112
  have S114 := H112.pk [4, 5, 6, 7, 8]
  refine kq _ _ S114 ?_
  clear kq Kq
  refine zhf ?_
  apply Zq
  apply ztn
  apply ZU
  refine wv 25 (.int .i64 ((i : Int))) ?_
  refine zwi 26 ((i : Int) + 1) ?_
  refine wv 12 (.int .i64 ((i : Int) + 1)) ?_
  apply ZQ
  have hok2 : ∀ s ∈ (D ++ [S92]), StB s := fun s hs => by
   rcases List.mem_append.1 hs with h | h
   ·exact hok s h
   rw [List.mem_singleton.1 h, hS92]; exact ⟨⟨by show Z8 from_ (f + 1) + (i : Int) ≤ _; omega, hx.1, hx.2.1, by show 0 ≤ (5 : Int); omega, by show (5 : Int) < _; omega⟩, by show Z8 from_ (f + 1) + (i : Int) ≤ _; omega, by have q1 := (Z2n (Z3y L1 (yS (Z8 from_ (f + 1) + (i : Int)) x (5 : Int)))).2; have q2 := Z20 L1 (yS (Z8 from_ (f + 1) + (i : Int)) x (5 : Int)); show Zu _ _ ≤ _; omega⟩
  have H115 := H112.pk [0, 1, 2, 3, 4, 5, 6, 7, 8, 9, 10]
  refine Zw ?_ _ ⟨(i + 1), a106, c107, (D ++ [S92]), a90, c91, L93, rfl, (by omega), hok2, ndL93, (by omega), (by simp only [List.length_append, List.length_cons, List.length_nil]; omega), (by rw [hL93]; exact hpre.trans (by unfold Zk; split; exact List.prefix_refl _; exact List.prefix_append _ _)), (by rw [hL93]; exact hrs.step ⟨by omega, by omega⟩), H115, rfl⟩ (by omega)
  exact zs
 have g116 := of_decide_eq_false b39
 refine Z18 _ b39 ?_
 apply zxb
 apply ztn
 apply zsl
 refine zwN 49 (Z2E x da D.length dc) (H37.at 9 rfl) ?_
 refine zwd fun Kq kq => ?_
 refine Z2k (Z2E x da D.length dc) H37 8 ?_
 intro w119 H120
 refine kq _ _ ?_
 clear kq Kq
 apply znt
 apply ZA
 refine Z6E rfl (Z0i (vs := (Z2E x da D.length dc)) rfl (by kernel_rfl) (by kernel_rfl) (by exact Nat.le_of_ble_eq_true (by kernel_rfl)) (H120.at 8 rfl) (by kernel_rfl)) ?_
 exact ⟨ra, rc, L1, da, dc, D, rfl, by omega, hok, hnd, by omega, hpre, hrs, H120.pk [0, 1, 2, 3, 10, 4]⟩
noncomputable def Z3R (f cn : Int) (L : List Signed) (fl : Int) (C : List CeR) (i : Nat) : Bool := (!decide ((i : Int) > 0) || Z3J (C.getD (i - 1) ce0) (C.getD i ce0)) && Z06 f cn L (C.getD i ce0).x (C.getD i ce0).S && !decide (ZK (C.getD i ce0).S > fl)
noncomputable def Z0n (f cn : Int) (L : List Signed) (p : PrR) : Bool := inB f p.r && !decide (p.e < 0) && !decide (p.e > 1048576) && !decide ((p.C.length : Int) > 64) && !decide (p.f = 18446744073709551615) && decide (p.sb = p.r) && Z0p L p.sb p.sm (ZB p) && (List.range p.C.length).all (Z3R f cn L p.f p.C)
theorem Z1R (x y : CeR) : Z3J x y = !decide (or2 (Z3x x.x.cl y.x.cl) (Z3x x.x.seq y.x.seq) ≥ 0) := by
 unfold Z3J or2 Z3x
 rw [Bool.eq_iff_iff]
 simp only [Bool.or_eq_true, Bool.and_eq_true, decide_eq_true_eq, Bool.not_eq_true', decide_eq_false_iff_not]
 split <;> split <;> (try split) <;> omega
theorem Z7X (w : World) (a b c d : Int) : Calls Tryz.prog 53 #[.agg ⟨[.int .i64 a, .int .i64 b]⟩, .agg ⟨[.int .i64 c, .int .i64 d]⟩] w fun e w' => e = .returned (.int .i64 (or2 (Z3x a c) (Z3x b d))) ∧ Upd [] w w' := (Z6d w a b c d).mono fun _ _ h => ⟨h.1, h.2.1⟩
end Go.Proofs.YtoaifondpohniaaGreat
