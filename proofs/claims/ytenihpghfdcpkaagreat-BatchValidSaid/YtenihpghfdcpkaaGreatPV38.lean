/- WHAT IS PROVED: contracts and plain laws of Cert10. Conditions: stated with each. -/
import Derived.Test.YtenihpghfdcpkaaGreatPV02
import Derived.Test.YtenihpghfdcpkaaGreatPV05
import Derived.Test.YtenihpghfdcpkaaGreatPV14
import Derived.Test.YtenihpghfdcpkaaGreatPV19
import Derived.Test.YtenihpghfdcpkaaGreatPV21
import Derived.Test.YtenihpghfdcpkaaGreatPV37
set_option maxHeartbeats 4000000
set_option maxRecDepth 100000
namespace Go.Proofs.YtenihpghfdcpkaaGreat
open Go.RowKit
abbrev Z6E (p0 : Nat) : List Value := ([(.map (some p0))] : LV)
abbrev Z6k (p0 : Nat) (p1 : List Signed) : Ck := Z2S p0 Z0c (Value.int .i64) (Z0o p1)
abbrev Z4d (p0 : Option Addr) (p1 : Nat) (p2 : Nat) : List Value := ([(.slice p0 p1 p2)] : LV)
abbrev Z6C (p0 : Option Addr) (p1 : List Signed) (p2 : Nat) : Ck := Zo 181 2 (.slice p0 p1.length p2) p1.length (p1.flatMap Z47)
abbrev Z2e (p0 : Nat) (p1 : Nat) : List Value := ([(pt p0 0), (pt p1 0)] : LV)
abbrev Z3g (p0 : Int) (p1 : Int) : List Value := ([i6 p0, i6 p1] : LV)
abbrev Z1X (p0 : Zj) : List Value := ([i6 p0.cl, i6 p0.seq] : LV) ++ hc p0.h ++ ([i6 p0.len, i6 p0.sb, i6 p0.sm] : LV)
abbrev Z3b : List Value := ([i6 0, i6 0] : LV) ++ hc Zz ++ ([i6 0, i6 0, i6 0, (.slice none 0 0)] : LV)
abbrev Z8v (p0 : Zj) : List Value := ([i6 p0.cl, i6 p0.seq] : LV) ++ hc p0.h ++ ([i6 p0.len, i6 p0.sb, i6 p0.sm, (.slice none 0 0)] : LV)
abbrev Z2Q (p0 : Zj) (p1 : Option Addr) (p2 : Nat) (p3 : Nat) : List Value := ([i6 p0.cl, i6 p0.seq] : LV) ++ hc p0.h ++ ([i6 p0.len, i6 p0.sb, i6 p0.sm, (.slice p1 p2 p3)] : LV)
abbrev Zbi (p0 : Option Addr) (p1 : List Zb) (p2 : Nat) : Ck := Zo 149 38 (.slice p0 p1.length p2) p1.length (p1.flatMap Z2O)
abbrev Z37 (p0 : Zb) : List Value := ([i6 p0.r, i6 p0.cl, i6 p0.seq] : LV) ++ hc p0.h ++ ([u6 p0.t, i6 p0.sb, i6 p0.sm] : LV)
theorem Z2o {va : Option Addr} {n c n' c' : Nat} {ad : Addr} (h : Value.slice va n c = .slice (some ad) n' c') : va = some ad := by
 simp only [Value.slice.injEq] at h; exact h.1
theorem Zbn {xs : List Int} {i : Nat} (h : i < xs.length) : xs.getD i 0 ∈ xs := by
 rw [List.getD_eq_getElem?_getD, List.getElem?_eq_getElem h]; exact List.getElem_mem h
theorem Z4H (w : World) (b mb r : Nat) (a : Option Addr) (c : Nat) (L : List Signed) (hB : (Z0h (Z0l b mb r a c L)).ok w) (f cn : Int) (hf : 1 ≤ f ∧ f ≤ 5) (x : Zj) (hx : Zco x) (from_ : Int) (hL : L.length ≤ 1000) (hn : L.Nodup) (va : Option Addr) (vc : Nat) (xs : List Int) (hxs : ListAt Z4b 1 w (.slice va xs.length vc) xs) (hbd : ∀ x ∈ xs, 0 ≤ x ∧ x ≤ 18446744073709551615) (hva : 0 < xs.length → ∀ ad, va = some ad → ¬ (Z0h (Z0l b mb r a c L)).fp ad.block) :
  Calls Tryz.prog 32 #[(.agg ⟨([zp b, zp r] : LV)⟩), (.agg ⟨([i6 f, i6 cn] : LV)⟩), (.agg ⟨(([i6 x.cl, i6 x.seq] : LV) ++ hc x.h ++ ([i6 x.len, i6 x.sb, i6 x.sm] : LV))⟩), i6 from_, (.slice va xs.length vc)] w fun e w' => ∃ (ra : Option Addr) (rc : Nat) (L1 : List Signed) (da : Option Addr) (dc : Nat) (D : List Zb), e = .returned (.agg ⟨ZaK x ++ [.slice da D.length dc]⟩) ∧ (D.length : Int) = 2 * f + 1 ∧ (∀ s ∈ D, StB s) ∧ L1.Nodup ∧ L1.length ≤ L.length + 11 ∧ L <+: L1 ∧ Sat w [Z0 b 179 [.map (some mb)], Z2S mb Z0c (Value.int .i64) (Z0o L1), Z0 r 165 [.slice ra (L1).length rc], Zo 181 2 (.slice ra (L1).length rc) (L1).length ((L1).flatMap Z47), Zo 149 38 (.slice da D.length dc) D.length (D.flatMap Z2O), ZQ w (Z0h (Z0l b mb r a c L)).fp] w' := by
 have hwf := Z1k from_ (f + 1) om
 obtain ⟨Q, hQ⟩ : ∃ Q : Nat, (Q : Int) = 2 * f + 1 := ⟨(2 * f + 1).toNat, by omega⟩
 have H := Sat.start (Z0l b mb r a c L) hB
 refine Zg Tryz.func32 rfl 50 rfl kn ?_
 refine zsl <| zy <| zdb (Z2e b r) H fun b2 w3 H4 => ?_
 refine kk <| zy <| zdb (Z3g f cn) H4 fun b6 w7 H8 => ?_
 refine kk <| zy <| zdb (Z1X x) H8 fun b10 w11 H12 => ?_
 refine kk <| zy <| zda (Z3b) H12 fun b14 w15 H16 => ?_
 refine kk <| Z1a <| zwN 14 (Z1X x) (H16.at 7 rfl) <| wv 15 (.agg ⟨(Z8v x)⟩) <| zy <| zda (Z3b) H16 fun b18 w19 H20 => ?_
 refine kk <| zy <| Z1S (Z8v x) H20 9 fun w22 H23 => ?_
 refine kk <| Z1a <| wv 16 (vi from_) <| wv 17 (pt b6 0) <| zw1 18 (vi f) (H23.cell 6 rfl rfl) <| zwi 19 (f + 1) <| zy <| zdq 20 (Z1N w22 from_ (f + 1) om) H23 fun w26 H27 => ?_
 refine kk <| wv 3 (vi (Z1 from_ (f + 1))) <| znt <| Z9 <| zsl <| wv 12 (vi 0) <| znt <| Zh ?_
 have H29 := H27.addNil 149 38
 refine ZB ([12, 13] ++ List.range' 21 28) (fun F_ W_ m_ => ∃ (i : Nat) (da : Option Addr) (dc : Nat) (D : List Zb) (ra : Option Addr) (rc : Nat) (L1 : List Signed), F_ 12 = (vi i) ∧ (i ≤ Q) ∧ (∀ s ∈ D, StB s) ∧ (L1.Nodup) ∧ (L1.length ≤ L.length + i) ∧ (D.length = i) ∧ (L <+: L1) ∧ Sat w [Z0 b 179 (Z6E mb), (Z6k mb L1), Z0 r 165 (Z4d ra L1.length rc), (Z6C ra L1 rc), ZQ w (Z0h (Z0l b mb r a c L)).fp, Z0 b2 33 (Z2e b r), Z0 b6 29 (Z3g f cn), Z0 b10 73 (Z1X x), Z0 b14 76 (Z3b), Z0 b18 76 (Z2Q x da D.length dc), (Zbi da D dc)] W_ ∧ m_ = Q - i) _ ⟨0, none, 0, [], a, c, L, (show ((vi 0) : Value) = _ by first | rfl | go_num), (Nat.zero_le _), (by simp), hn, om, rfl, (List.prefix_refl _), H29, rfl⟩ ?_
 rintro g30 w31 _ ⟨i, da, dc, D, ra, rc, L1, v33, hin, hok, hnd, hLl, hDl, hpre, H32, rfl⟩
 refine Zn 12 _ v33 ?_
 refine Z9 <| zsl <| wv 21 (vi i) <| zwN 22 (Z3g f cn) (H32.at 6 rfl) <| zy <| zdq 23 (Z5R w31 f cn om) H32 fun w36 H37 => ?_
 refine kk <| wv 24 (.bool (decide ((i : Int) < (2 * f + 1)))) <| znt ?_
 refine zid (fun b39 g40 => ?_) fun b39 g116 => ?_
 ·refine Zp <| ztn <| Z9 <| Zh <| zsl <| wv 13 (vu 5) <| znt <| Z9 <| zsl <| wv 27 (vi i) ?_
  refine wv 28 (.slice va xs.length vc) <| wv 29 (vi xs.length) <| wv 30 (.bool (decide ((i : Int) < xs.length))) <| znt ?_
  refine zid (fun b42 g43 => ?_) fun b42 g82 => ?_
  ·have hx0 : 0 ≤ xs.getD i 0 := (hbd _ (Zbn om)).1
   refine ZG <| wv 31 (.slice va xs.length vc) <| wv 32 (vi i) ?_
   obtain ⟨g45, o46, c47, e48, R49⟩ := SliceOf.atD hxs 0 (show i < xs.length by omega)
   refine wv 33 (.pointer (some ⟨g45, o46 + ((i : Int)).toNat * 1, none⟩)) ?_ (hr := Z8 (E := 25) kr kr kn rfl e48 rfl om om)
   refine zw1 34 (vu (xs.getD i 0)) (H37.cellR 4 rfl (Z0f R49 0 kr (show o46 + ((i : Int)).toNat * 1 = o46 + i * 1 + 0 by omega)) (by have hq := hva om _ (Z2o e48); exact hq)) <| wv 35 (vu ((xs.getD i 0) % 1000)) ?_ (hr := Z7E kr om om)
   refine wv 36 (vu (1 + ((xs.getD i 0) % 1000))) ?_ (hr := Z0A (z := 1 + ((xs.getD i 0) % 1000)) kr (Z1h om))
   refine wv 13 (vu (1 + ((xs.getD i 0) % 1000))) <| znt <| Z0Z H37 [ZQ w (Z0h (Z0l b mb r a c L)).fp, Z0 b2 33 (Z2e b r), Z0 b6 29 (Z3g f cn), Z0 b10 73 (Z1X x), Z0 b14 76 (Z3b), Z0 b18 76 (Z2Q x da D.length dc)] [12] 13 rfl kr (fun Hx => (Hx.pk [4, 5, 6, 7, 8, 9])) fun w50 H51 S52 => ?_
   refine zkp 0 S52 37 (pt b18 37) <| zkv 1 S52 38 (.slice da D.length dc) ?_ (he := fun _ H' => (zl1 (H'.cell 5 rfl kr)))
   refine zkv 2 S52 39 (.agg ⟨(Z2e b r)⟩) ?_ (he := fun _ H' => (zlN (vs := (Z2e b r)) (H'.at 1 rfl)))
   refine zkp 3 S52 40 (vi (Z1 from_ (f + 1))) <| zkp 4 S52 41 (vi i) <| zkp 5 S52 42 (vi ((Z1 from_ (f + 1)) + (i : Int))) ?_ (he := fun _ => (Z0A (z := (Z1 from_ (f + 1)) + (i : Int)) kr (IntWalk.i64_in _ om)))
   refine zkv 6 S52 43 (.agg ⟨(Z1X x)⟩) ?_ (he := fun _ H' => (zlN (vs := (Z1X x)) (H'.at 3 rfl)))
   refine zkp 7 S52 44 (vu (1 + ((xs.getD i 0) % 1000))) <| zky 8 ?_
   refine zdc 45 (Z6w w50 b mb r ra rc L1 (H51.fn [0, 1, 2, 3]) ((Z1 from_ (f + 1)) + (i : Int)) x (1 + ((xs.getD i 0) % 1000)) om hx om om hnd) ?_
   rintro _ w54 ⟨a56, c57, rfl, T55⟩
   obtain ⟨L59, hL59⟩ : ∃ L59 : List Signed, L59 = Zy L1 (yS ((Z1 from_ (f + 1)) + (i : Int)) x (1 + ((xs.getD i 0) % 1000))) := ⟨_, rfl⟩
   rw [← hL59] at T55
   have H60 := H51.tl [Z0 b 179 (Z6E mb), (Z6k mb L59), Z0 r 165 (Z4d a56 L59.length c57), (Z6C a56 L59 c57)] [0, 1, 2, 3] [4, 5, 6, 7, 8, 9, 10] T55 [0, 1, 2, 3, 4, 5, 6, 7, 8, 9, 10]
   refine ⟨_, rfl, ?_⟩
   obtain ⟨S58, hS58⟩ : ∃ S58 : Zb, S58 = mkS L1 ((Z1 from_ (f + 1)) + (i : Int)) x (1 + ((xs.getD i 0) % 1000)) := ⟨_, rfl⟩
   rw [← hS58]
   have ndL59 : L59.Nodup := by rw [hL59]; exact Z22 hnd _
   have llL59 : L59.length ≤ L1.length + 1 := by rw [hL59]; exact Z2g _ _
   have S61 := H60.pk [4, 5, 6, 7, 8, 9]
   refine ke S61 <| zky 9 ?_
   refine Z2z 149 38 80 (.agg ⟨(([(vi 0), (vi 0), (vi 0)] : LV) ++ hc Zz ++ ([(vu 0), (vi 0), (vi 0)] : LV))⟩) [(0, (.agg ⟨(Z37 S58)⟩))] (Z37 S58) H60 ?_
   intro b63 w64 H65
   have H66 := H65.ct 11 rfl (Zo 149 38 (.slice (some ⟨b63, 0, none⟩) 1 1) 1 ([S58].flatMap Z2O)) (by rw [(show ((Z37 S58) : LV) = [S58].flatMap Z2O by kernel_rfl)])
   have S67 := H66.pk [4, 5, 6, 7, 8, 9]
   refine ke S67 <| zky 10 ?_
   refine Z0t (T := 74) (e := 149) (size := 38) (bytes := 80) rfl H66 kr 10 11 rfl rfl rfl rfl (Z0q Z2O Z8m [S58]) om om ?_
   intro v69 w70 H71
   have H74 := H71.ct 10 rfl (Zo 149 38 v69 ((D ++ [S58]).length) ((D ++ [S58]).flatMap Z2O)) ja
   obtain ⟨a72, c73, rfl⟩ := Z3 (H74.at 10 rfl)
   have S75 := H74.pk [4, 5, 6, 7, 8, 9]
   refine ke S75 <| zkp 11 S75 48 (pt b18 37) <| Z2B 12 (Sat w [ZQ w (Z0h (Z0l b mb r a c L)).fp, Z0 b2 33 (Z2e b r), Z0 b6 29 (Z3g f cn), Z0 b10 73 (Z1X x), Z0 b14 76 (Z3b)]) rfl kr (Zc rfl) rfl (fun Kq kq => ?_)
   refine zds (Z4d a72 ((D ++ [S58]).length) c73) (Z2Q x a72 ((D ++ [S58]).length) c73) H74 9 ?_
   intro w77 H78
   have S80 := H78.pk [4, 5, 6, 7, 8]
   refine kq _ _ S80 <| zhf <| Z6 <| ztn <| ZG <| wv 25 (vi i) <| zwi 26 ((i : Int) + 1) <| wv 12 (vi ((i : Int) + 1)) <| ZL ?_
   have hok2 : ∀ s ∈ (D ++ [S58]), StB s := fun s hs => by
    rcases List.mem_append.1 hs with h | h
    ·exact hok s h
    rw [List.mem_singleton.1 h, hS58]; exact ⟨⟨by show Z1 from_ (f + 1) + (i : Int) ≤ _; omega, hx.1, hx.2.1, by show 0 ≤ (1 + ((xs.getD i 0) % 1000)); omega, by show (1 + ((xs.getD i 0) % 1000)) < _; omega⟩, by show Z1 from_ (f + 1) + (i : Int) ≤ _; omega, by have q1 := (Z1M (Z2d L1 (yS (Z1 from_ (f + 1) + (i : Int)) x (1 + ((xs.getD i 0) % 1000))))).2; have q2 := Z2g L1 (yS (Z1 from_ (f + 1) + (i : Int)) x (1 + ((xs.getD i 0) % 1000))); show Zr _ _ ≤ _; omega⟩
   have H81 := H78.pk [0, 1, 2, 3, 4, 5, 6, 7, 8, 9, 10]
   refine Za ?_ _ ⟨(i + 1), a72, c73, (D ++ [S58]), a56, c57, L59, rfl, om, hok2, ndL59, om, (by simp only [List.length_append, List.length_cons, List.length_nil]; omega), (by rw [hL59]; exact hpre.trans (by unfold Zy; split; exact List.prefix_refl _; exact List.prefix_append _ _)), H81, rfl⟩ om
   exact zs
  refine Zp <| ztn <| Z0Z H37 [ZQ w (Z0h (Z0l b mb r a c L)).fp, Z0 b2 33 (Z2e b r), Z0 b6 29 (Z3g f cn), Z0 b10 73 (Z1X x), Z0 b14 76 (Z3b), Z0 b18 76 (Z2Q x da D.length dc)] [12] 13 rfl kr (fun Hx => (Hx.pk [4, 5, 6, 7, 8, 9])) fun w84 H85 S86 => ?_
  refine zkp 0 S86 37 (pt b18 37) <| zkv 1 S86 38 (.slice da D.length dc) ?_ (he := fun _ H' => (zl1 (H'.cell 5 rfl kr)))
  refine zkv 2 S86 39 (.agg ⟨(Z2e b r)⟩) ?_ (he := fun _ H' => (zlN (vs := (Z2e b r)) (H'.at 1 rfl)))
  refine zkp 3 S86 40 (vi (Z1 from_ (f + 1))) <| zkp 4 S86 41 (vi i) <| zkp 5 S86 42 (vi ((Z1 from_ (f + 1)) + (i : Int))) ?_ (he := fun _ => (Z0A (z := (Z1 from_ (f + 1)) + (i : Int)) kr (IntWalk.i64_in _ om)))
  refine zkv 6 S86 43 (.agg ⟨(Z1X x)⟩) ?_ (he := fun _ H' => (zlN (vs := (Z1X x)) (H'.at 3 rfl)))
  refine zkp 7 S86 44 (vu 5) <| zky 8 ?_
  refine zdc 45 (Z6w w84 b mb r ra rc L1 (H85.fn [0, 1, 2, 3]) ((Z1 from_ (f + 1)) + (i : Int)) x (5 : Int) om hx om om hnd) ?_
  rintro _ w88 ⟨a90, c91, rfl, T89⟩
  obtain ⟨L93, hL93⟩ : ∃ L93 : List Signed, L93 = Zy L1 (yS ((Z1 from_ (f + 1)) + (i : Int)) x (5 : Int)) := ⟨_, rfl⟩
  rw [← hL93] at T89
  have H94 := H85.tl [Z0 b 179 (Z6E mb), (Z6k mb L93), Z0 r 165 (Z4d a90 L93.length c91), (Z6C a90 L93 c91)] [0, 1, 2, 3] [4, 5, 6, 7, 8, 9, 10] T89 [0, 1, 2, 3, 4, 5, 6, 7, 8, 9, 10]
  refine ⟨_, rfl, ?_⟩
  obtain ⟨S92, hS92⟩ : ∃ S92 : Zb, S92 = mkS L1 ((Z1 from_ (f + 1)) + (i : Int)) x (5 : Int) := ⟨_, rfl⟩
  rw [← hS92]
  have ndL93 : L93.Nodup := by rw [hL93]; exact Z22 hnd _
  have llL93 : L93.length ≤ L1.length + 1 := by rw [hL93]; exact Z2g _ _
  have S95 := H94.pk [4, 5, 6, 7, 8, 9]
  refine ke S95 <| zky 9 ?_
  refine Z2z 149 38 80 (.agg ⟨(([(vi 0), (vi 0), (vi 0)] : LV) ++ hc Zz ++ ([(vu 0), (vi 0), (vi 0)] : LV))⟩) [(0, (.agg ⟨(Z37 S92)⟩))] (Z37 S92) H94 ?_
  intro b97 w98 H99
  have H100 := H99.ct 11 rfl (Zo 149 38 (.slice (some ⟨b97, 0, none⟩) 1 1) 1 ([S92].flatMap Z2O)) (by rw [(show ((Z37 S92) : LV) = [S92].flatMap Z2O by kernel_rfl)])
  have S101 := H100.pk [4, 5, 6, 7, 8, 9]
  refine ke S101 <| zky 10 ?_
  refine Z0t (T := 74) (e := 149) (size := 38) (bytes := 80) rfl H100 kr 10 11 rfl rfl rfl rfl (Z0q Z2O Z8m [S92]) om om ?_
  intro v103 w104 H105
  have H108 := H105.ct 10 rfl (Zo 149 38 v103 ((D ++ [S92]).length) ((D ++ [S92]).flatMap Z2O)) ja
  obtain ⟨a106, c107, rfl⟩ := Z3 (H108.at 10 rfl)
  have S109 := H108.pk [4, 5, 6, 7, 8, 9]
  refine ke S109 <| zkp 11 S109 48 (pt b18 37) <| Z2B 12 (Sat w [ZQ w (Z0h (Z0l b mb r a c L)).fp, Z0 b2 33 (Z2e b r), Z0 b6 29 (Z3g f cn), Z0 b10 73 (Z1X x), Z0 b14 76 (Z3b)]) rfl kr (Zc rfl) rfl (fun Kq kq => ?_)
  refine zds (Z4d a106 ((D ++ [S92]).length) c107) (Z2Q x a106 ((D ++ [S92]).length) c107) H108 9 ?_
  intro w111 H112
  have S114 := H112.pk [4, 5, 6, 7, 8]
  refine kq _ _ S114 <| zhf <| Z6 <| ztn <| ZG <| wv 25 (vi i) <| zwi 26 ((i : Int) + 1) <| wv 12 (vi ((i : Int) + 1)) <| ZL ?_
  have hok2 : ∀ s ∈ (D ++ [S92]), StB s := fun s hs => by
   rcases List.mem_append.1 hs with h | h
   ·exact hok s h
   rw [List.mem_singleton.1 h, hS92]; exact ⟨⟨by show Z1 from_ (f + 1) + (i : Int) ≤ _; omega, hx.1, hx.2.1, by show 0 ≤ (5 : Int); omega, by show (5 : Int) < _; omega⟩, by show Z1 from_ (f + 1) + (i : Int) ≤ _; omega, by have q1 := (Z1M (Z2d L1 (yS (Z1 from_ (f + 1) + (i : Int)) x (5 : Int)))).2; have q2 := Z2g L1 (yS (Z1 from_ (f + 1) + (i : Int)) x (5 : Int)); show Zr _ _ ≤ _; omega⟩
  have H115 := H112.pk [0, 1, 2, 3, 4, 5, 6, 7, 8, 9, 10]
  refine Za ?_ _ ⟨(i + 1), a106, c107, (D ++ [S92]), a90, c91, L93, rfl, om, hok2, ndL93, om, (by simp only [List.length_append, List.length_cons, List.length_nil]; omega), (by rw [hL93]; exact hpre.trans (by unfold Zy; split; exact List.prefix_refl _; exact List.prefix_append _ _)), H115, rfl⟩ om
  exact zs
 refine zxb <| ztn <| zsl <| zwN 49 (Z2Q x da D.length dc) (H37.at 9 rfl) <| zy <| Z1S (Z2Q x da D.length dc) H37 8 fun w119 H120 => ?_
 refine kk <| znt <| Zk <| Z5v rfl (Z02 (vs := (Z2Q x da D.length dc)) rfl kr kr kn (H120.at 8 rfl) kr) ?_
 exact ⟨ra, rc, L1, da, dc, D, rfl, by omega, hok, hnd, by omega, hpre, H120.pk [0, 1, 2, 3, 10, 4]⟩
end Go.Proofs.YtenihpghfdcpkaaGreat
