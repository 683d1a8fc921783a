/- WHAT IS PROVED: contracts and plain laws of OfP. Conditions: stated with each. -/
import Derived.Test.YtenihpghfdcpkaaGreatPV02
import Derived.Test.YtenihpghfdcpkaaGreatPV05
import Derived.Test.YtenihpghfdcpkaaGreatPV08
import Derived.Test.YtenihpghfdcpkaaGreatPV13
import Derived.Test.YtenihpghfdcpkaaGreatPV27
set_option maxHeartbeats 4000000
set_option maxRecDepth 100000
namespace Go.Proofs.YtenihpghfdcpkaaGreat
open Go.RowKit
abbrev ZbI (p0 : Int) (p1 : Int) : List Value := ([i6 p0, i6 p1] : LV)
abbrev Z1f (p0 : Option Addr) (p1 : Nat) (p2 : Nat) : List Value := ([(.slice p0 p1 p2)] : LV)
abbrev Z1d (p0 : Option Addr) (p1 : List UInt8) (p2 : Nat) : Ck := Zo 5 1 (.slice p0 p1.length p2) p1.length (p1.flatMap Zx)
abbrev Z94 : List Value := ([(.int .u8 (99)), (.int .u8 (111)), (.int .u8 (109)), (.int .u8 (109)), (.int .u8 (105)), (.int .u8 (116))] : LV)
theorem ZaP {va : Option Addr} {n c n' c' : Nat} {ad : Addr} (h : Value.slice va n c = .slice (some ad) n' c') : va = some ad := by
 simp only [Value.slice.injEq] at h; exact h.1
theorem Z80 {α : Type} {enc : α → List Value} {sz : Nat} (hs : ∀ x, (enc x).length = sz) (h0 : 0 < sz) {W w : World} {G : List Ck} (H : Sat W G w) (is : List Nat) (j : Nat) {B : List Ck} (hB : (is.filterMap fun i => G[i]?) = B) (hj : G[j]? = some (ZQ W fun _ => False)) (hne : is.all (fun i => !Nat.beq i j) = true) {va : Option Addr} {n vc : Nat} {ls : List α} (hv : ListAt enc sz W (.slice va n vc) ls) : 0 < ls.length → ∀ a, va = some a → ¬ (Z0h B).fp a.block := by
 intro h1 a ha hfp
 obtain ⟨vb, vo, vc', hva, hvs⟩ := hv.cells hs h0 h1
 have h2 := ZaP hva
 rw [h2] at ha
 obtain rfl := (Option.some.inj ha)
 have hl : 0 < (ls.flatMap enc).length := by rw [Z2i enc sz hs]; exact Nat.mul_pos h1 h0
 have hc := hvs 0 _ (List.getElem?_eq_getElem hl)
 rw [Addr.add_lit] at hc
 have hlt := World.block_lt_of_cell? W _ hc
 subst hB
 obtain ⟨A, hA, hAf⟩ := hfp
 obtain ⟨i, hi, he⟩ := List.mem_filterMap.1 hA
 have hij : Nat.beq i j = false := by simpa using List.all_eq_true.1 hne i hi
 exact H.apart i j he hj hij _ hAf ⟨hlt, fun h => h⟩
theorem Zf1 (w : World) (cl seq : Int) (x : Hash) (pa : Option Addr) (pc : Nat) (p : List UInt8) (hp : ListAt Zx 1 w (.slice pa p.length pc) p) (hcl : cl ≤ 9223372036854775807) (hsq : seq ≤ 9223372036854775807) (hlp : p.length ≤ 1000) :
  Calls Tryz.prog 122 #[(.agg ⟨([i6 cl, i6 seq] : LV)⟩), (.agg ⟨(hc x)⟩), (.slice pa p.length pc)] w fun e w' => e = .returned (.agg ⟨hc (Z0E (ofT cl seq x p))⟩) ∧ Upd [] w w' := by
 have H := Sat.start0 w
 refine Zg Tryz.func122 rfl 25 rfl kn ?_
 refine zsl <| zy <| zdb (ZbI cl seq) H fun b2 w3 H4 => ?_
 refine kk <| zy <| zdb (hc x) H4 ?_
 let A0 := Z0 b2 59 (ZbI cl seq)
 intro b6 w7 (H8 : Sat w [zR w, A0, Z0 b6 61 (hc x)] w7)
 refine kk <| zy <| zda (hc Zz) H8 fun b10 w11 H12 => ?_
 let A1 := Z0 b6 61 (hc x)
 refine kk <| znt <| Z9 <| Z0a H12 [zR w, A0, A1, Z0 b10 61 (hc Zz)] 11 rfl kr (fun Hx => (Hx.pk [0, 1, 2, 3])) fun w13 H14 S15 => ?_
 refine hv0 4 S15 12 (pt b2 0) <| hv0 5 S15 13 (vi cl) ?_ (he := fun _ H' => (zl1 (H'.cell 1 rfl rfl)))
 refine hv0 7 S15 15 (pt b2 1) <| hv0 8 S15 16 (vi seq) ?_ (he := fun _ H' => (zl1 (H'.cell 1 rfl rfl)))
 refine Z5X 0 1 rfl rfl kr (Zc rfl) (Zc rfl) (fun Kq kq => ?_) (fun Kq kq => ?_)
 ·refine zdc 8 (Z42 w13) ?_
  rintro _ w17 ⟨r18, a19, c20, rfl, k21, p22, q23⟩
  have H24 : Sat w [zR w, A0, A1, Z0 b10 61 (hc Zz), Z0h (wrL r18 a19 c20 z8)] w17 := H14.addU p22 k21 q23
  have H25 := H24.open 4 rfl
  refine ⟨_, rfl, ?_⟩
  have S26 := H25.pk [0, 1, 2, 3]
  refine kq _ _ S26 <| zhy 1 ?_
  refine Z2z 5 1 1 (.int .u8 (0)) [(0, (.int .u8 (99))), (1, (.int .u8 (111))), (2, (.int .u8 (109))), (3, (.int .u8 (109))), (4, (.int .u8 (105))), (5, (.int .u8 (116)))] (Z94) H25 ?_
  intro b28 w29 (H30 : Sat w [zR w, A0, A1, Z0 b10 61 (hc Zz), Z0 r18 266 (Z1f a19 (z8.length) c20), (Z1d a19 (z8) c20), Zo 5 1 (.slice (some ⟨b28, 0, none⟩) 6 6) 6 (Z94)] w29)
  have H31 := H30.ct 6 rfl (Zo 5 1 (.slice (some ⟨b28, 0, none⟩) 6 6) 6 (zq1.flatMap Zx)) (by rw [show ((Z94) : LV) = zq1.flatMap Zx from rfl])
  have S32 := H31.pk [0, 1, 2, 3]
  refine kh S32 <| zhy 2 ?_
  refine Z1l (e := 5) (s := zq1) rfl H31 6 rfl kr kr rfl ?_
  intro w34 H35
  have S36 := H35.pk [0, 1, 2, 3]
  refine kh S36 <| zhy 3 ?_
  have l43 := (show (Zm zq1).length ≤ 16 from Z0K _)
  refine zdc 11 (Z2c w34 r18 a19 c20 z8 (H35.fn [4, 5]) (by simp) (some ⟨b28, 0, none⟩) 6 zq1 (ListAt.ofTxt (H35.at 6 rfl)) (Z4Y (fun b hb => H35.offP [4, 5] 6 rfl rfl (by decide) hb)) (by first | omega | simp)) ?_
  rintro _ w38 ⟨a40, c41, rfl, T39⟩
  have H44 : Sat w [zR w, A0, A1, Z0 b10 61 (hc Zz), Z0 r18 266 (Z1f a40 ((z8 ++ Zm zq1).length) c41), (Z1d a40 (z8 ++ Zm zq1) c41), Z1y (.slice (some ⟨b28, 0, none⟩) 6 6) zq1] w38 := (Sat.turnL (L' := [Z0 r18 266 (Z1f a40 ((z8 ++ Zm zq1).length) c41), (Z1d a40 (z8 ++ Zm zq1) c41)]) (R := [zR w, A0, A1, Z0 b10 61 (hc Zz), Z1y (.slice (some ⟨b28, 0, none⟩) 6 6) zq1]) H35 [4, 5] [0, 1, 2, 3, 6] (by decide) kr rfl T39).pk [2, 3, 4, 5, 0, 1, 6]
  refine ⟨_, rfl, ?_⟩
  have S45 := H44.pk [0, 1, 2, 3]
  refine kh S45 <| zhy 6 ?_
  have l52 := ZA cl
  refine zdc 14 (Z0C w38 r18 a40 c41 (z8 ++ Zm zq1) (H44.fn [4, 5]) (by simp only [List.length_append, List.length_nil]; omega) cl om) ?_
  rintro _ w47 ⟨a49, c50, rfl, T48⟩
  have H53 := H44.tl [Z0 r18 266 (Z1f a49 (((z8 ++ Zm zq1) ++ Z5 cl).length) c50), (Z1d a49 ((z8 ++ Zm zq1) ++ Z5 cl) c50)] [4, 5] [0, 1, 2, 3, 6] T48 [2, 3, 4, 5, 0, 1, 6]
  refine ⟨_, rfl, ?_⟩
  have S54 := H53.pk [0, 1, 2, 3]
  refine kh S54 <| zhy 9 ?_
  have l61 := ZA seq
  refine zdc 17 (Z0C w47 r18 a49 c50 ((z8 ++ Zm zq1) ++ Z5 cl) (H53.fn [4, 5]) (by simp only [List.length_append, List.length_nil]; omega) seq om) ?_
  rintro _ w56 ⟨a58, c59, rfl, T57⟩
  have H62 : Sat w [zR w, A0, A1, Z0 b10 61 (hc Zz), Z0 r18 266 (Z1f a58 ((((z8 ++ Zm zq1) ++ Z5 cl) ++ Z5 seq).length) c59), (Z1d a58 (((z8 ++ Zm zq1) ++ Z5 cl) ++ Z5 seq) c59), Z1y (.slice (some ⟨b28, 0, none⟩) 6 6) zq1] w56 := (Sat.turnL (L' := [Z0 r18 266 (Z1f a58 ((((z8 ++ Zm zq1) ++ Z5 cl) ++ Z5 seq).length) c59), (Z1d a58 (((z8 ++ Zm zq1) ++ Z5 cl) ++ Z5 seq) c59)]) (R := [zR w, A0, A1, Z0 b10 61 (hc Zz), Z1y (.slice (some ⟨b28, 0, none⟩) 6 6) zq1]) H53 [4, 5] [0, 1, 2, 3, 6] (by decide) kr rfl T57).pk [2, 3, 4, 5, 0, 1, 6]
  refine ⟨_, rfl, ?_⟩
  have S63 := H62.pk [0, 1, 2, 3]
  refine kh S63 <| hv0 10 S63 7 (pt r18 0) <| zhf <| ztn <| zsl <| wv 18 (pt r18 0) <| zwN 19 (hc x) (H62.at 2 rfl) <| zy ?_
  have l70 := x.len
  refine zdc 20 (Z2t w56 r18 a58 c59 (((z8 ++ Zm zq1) ++ Z5 cl) ++ Z5 seq) (H62.fn [4, 5]) (by simp only [List.length_append, List.length_nil]; omega) x) ?_
  rintro _ w65 ⟨a67, c68, rfl, T66⟩
  have H71 := H62.tl [Z0 r18 266 (Z1f a67 (((((z8 ++ Zm zq1) ++ Z5 cl) ++ Z5 seq) ++ x.l).length) c68), (Z1d a67 ((((z8 ++ Zm zq1) ++ Z5 cl) ++ Z5 seq) ++ x.l) c68)] [4, 5] [0, 1, 2, 3, 6] T66 [2, 3, 4, 5, 0, 1, 6]
  refine ⟨_, rfl, ?_⟩
  refine kk <| wv 21 (.slice pa p.length pc) <| zy ?_
  have l78 := Z0K p
  refine zdc 22 (Z2c w65 r18 a67 c68 ((((z8 ++ Zm zq1) ++ Z5 cl) ++ Z5 seq) ++ x.l) (H71.fn [4, 5]) (by simp only [List.length_append, List.length_nil]; omega) pa pc p (ListAt.now H71 0 rfl hp) (Z80 Zw (by decide) H71 [4, 5] 0 rfl rfl (by decide) hp) om) ?_
  rintro _ w73 ⟨a75, c76, rfl, T74⟩
  have H79 : Sat w [zR w, A0, A1, Z0 b10 61 (hc Zz), Z0 r18 266 (Z1f a75 ((((((z8 ++ Zm zq1) ++ Z5 cl) ++ Z5 seq) ++ x.l) ++ Zm p).length) c76), (Z1d a75 (((((z8 ++ Zm zq1) ++ Z5 cl) ++ Z5 seq) ++ x.l) ++ Zm p) c76), Z1y (.slice (some ⟨b28, 0, none⟩) 6 6) zq1] w73 := (Sat.turnL (L' := [Z0 r18 266 (Z1f a75 ((((((z8 ++ Zm zq1) ++ Z5 cl) ++ Z5 seq) ++ x.l) ++ Zm p).length) c76), (Z1d a75 (((((z8 ++ Zm zq1) ++ Z5 cl) ++ Z5 seq) ++ x.l) ++ Zm p) c76)]) (R := [zR w, A0, A1, Z0 b10 61 (hc Zz), Z1y (.slice (some ⟨b28, 0, none⟩) 6 6) zq1]) H71 [4, 5] [0, 1, 2, 3, 6] (by decide) kr rfl T74).pk [2, 3, 4, 5, 0, 1, 6]
  refine ⟨_, rfl, ?_⟩
  refine kk <| zy <| zdc 23 (Z26 w73 r18 a75 c76 (((((z8 ++ Zm zq1) ++ Z5 cl) ++ Z5 seq) ++ x.l) ++ Zm p) (H79.fn [4, 5]) (by simp only [List.length_append, List.length_nil]; omega)) ?_
  rintro _ w81 ⟨u82, rfl, T83⟩
  have H84 := H79.tl [Z0 r18 266 (Z1f a75 ((((((z8 ++ Zm zq1) ++ Z5 cl) ++ Z5 seq) ++ x.l) ++ Zm p).length) c76), (Z1d a75 (((((z8 ++ Zm zq1) ++ Z5 cl) ++ Z5 seq) ++ x.l) ++ Zm p) c76), Zo 5 1 u82 ((((((z8 ++ Zm zq1) ++ Z5 cl) ++ Z5 seq) ++ x.l) ++ Zm p).length) ((((((z8 ++ Zm zq1) ++ Z5 cl) ++ Z5 seq) ++ x.l) ++ Zm p).flatMap Zx)] [4, 5] [0, 1, 2, 3, 6] T83 [3, 4, 5, 6, 0, 1, 7, 2]
  obtain ⟨a85, c86, rfl⟩ := Z3 (H84.at 7 rfl)
  refine ⟨_, rfl, ?_⟩
  refine kk <| zy <| zdq 24 (Z8h w81 a85 c86 (((((z8 ++ Zm zq1) ++ Z5 cl) ++ Z5 seq) ++ x.l) ++ Zm p) (ListAt.row (enc := Zx) (sz := 1) Zw (by decide) (H84.at 7 rfl)) (Z9r cl seq x p hlp)) H84 fun w88 H89 => ?_
  refine kk <| zy <| Z1S (hc (Z0E (((((z8 ++ Zm zq1) ++ Z5 cl) ++ Z5 seq) ++ x.l) ++ Zm p))) H89 3 ?_
  intro w92 (H93 : Sat w [zR w, A0, A1, Z0 b10 61 (hc (Z0E (((((z8 ++ Zm zq1) ++ Z5 cl) ++ Z5 seq) ++ x.l) ++ Zm p))), Z0 r18 266 (Z1f a75 ((((((z8 ++ Zm zq1) ++ Z5 cl) ++ Z5 seq) ++ x.l) ++ Zm p).length) c76), (Z1d a75 (((((z8 ++ Zm zq1) ++ Z5 cl) ++ Z5 seq) ++ x.l) ++ Zm p) c76), Z1y (.slice (some ⟨b28, 0, none⟩) 6 6) zq1, (Z1d a85 (((((z8 ++ Zm zq1) ++ Z5 cl) ++ Z5 seq) ++ x.l) ++ Zm p) c86)] w92)
  refine kk <| znt <| Zk <| Z5v rfl (Z02 (vs := (hc (Z0E (((((z8 ++ Zm zq1) ++ Z5 cl) ++ Z5 seq) ++ x.l) ++ Zm p)))) rfl kr kr kn (H93.at 3 rfl) kr) ?_
  exact ⟨by rw [Z83], H93.upd 0 rfl [] ne⟩
 refine Z2z 5 1 1 (.int .u8 (0)) [(0, (.int .u8 (99))), (1, (.int .u8 (111))), (2, (.int .u8 (109))), (3, (.int .u8 (109))), (4, (.int .u8 (105))), (5, (.int .u8 (116)))] (Z94) H14 ?_
 intro b95 w96 H97
 have H98 := H97.ct 4 rfl (Zo 5 1 (.slice (some ⟨b95, 0, none⟩) 6 6) 6 (zq1.flatMap Zx)) (by rw [show ((Z94) : LV) = zq1.flatMap Zx from rfl])
 have S99 := H98.pk [0, 1, 2, 3]
 refine kq _ _ S99 ?_
 refine Z5X 0 2 rfl rfl kr (Zc rfl) (Zc rfl) (fun Kq kq => ?_) (fun Kq kq => ?_)
 ·refine zdc 8 (Z42 w96) ?_
  rintro _ w101 ⟨r102, a103, c104, rfl, k105, p106, q107⟩
  have H108 : Sat w [zR w, A0, A1, Z0 b10 61 (hc Zz), Zo 5 1 (.slice (some ⟨b95, 0, none⟩) 6 6) 6 (zq1.flatMap Zx), Z0h (wrL r102 a103 c104 z8)] w101 := H98.addU p106 k105 q107
  have H109 := H108.open 5 rfl
  refine ⟨_, rfl, ?_⟩
  have S110 := H109.pk [0, 1, 2, 3]
  refine kq _ _ S110 <| zhy 2 ?_
  refine Z1l (e := 5) (s := zq1) rfl H109 4 rfl kr kr rfl ?_
  intro w112 (H113 : Sat w [zR w, A0, A1, Z0 b10 61 (hc Zz), Z1y (.slice (some ⟨b95, 0, none⟩) 6 6) zq1, Z0 r102 266 (Z1f a103 (z8.length) c104), (Z1d a103 (z8) c104)] w112)
  have S114 := H113.pk [0, 1, 2, 3]
  refine kh S114 <| zhy 3 ?_
  have l121 := (show (Zm zq1).length ≤ 16 from Z0K _)
  refine zdc 11 (Z2c w112 r102 a103 c104 z8 (H113.fn [5, 6]) (by simp) (some ⟨b95, 0, none⟩) 6 zq1 (ListAt.ofTxt (H113.at 4 rfl)) (Z4Y (fun b hb => H113.offP [5, 6] 4 rfl rfl (by decide) hb)) (by first | omega | simp)) ?_
  rintro _ w116 ⟨a118, c119, rfl, T117⟩
  have H122 := H113.tl [Z0 r102 266 (Z1f a118 ((z8 ++ Zm zq1).length) c119), (Z1d a118 (z8 ++ Zm zq1) c119)] [5, 6] [0, 1, 2, 3, 4] T117 [2, 3, 4, 5, 6, 0, 1]
  refine ⟨_, rfl, ?_⟩
  have S123 := H122.pk [0, 1, 2, 3]
  refine kh S123 <| zhy 6 ?_
  have l130 := ZA cl
  refine zdc 14 (Z0C w116 r102 a118 c119 (z8 ++ Zm zq1) (H122.fn [5, 6]) (by simp only [List.length_append, List.length_nil]; omega) cl om) ?_
  rintro _ w125 ⟨a127, c128, rfl, T126⟩
  have H131 : Sat w [zR w, A0, A1, Z0 b10 61 (hc Zz), Z1y (.slice (some ⟨b95, 0, none⟩) 6 6) zq1, Z0 r102 266 (Z1f a127 (((z8 ++ Zm zq1) ++ Z5 cl).length) c128), (Z1d a127 ((z8 ++ Zm zq1) ++ Z5 cl) c128)] w125 := (Sat.turnL (L' := [Z0 r102 266 (Z1f a127 (((z8 ++ Zm zq1) ++ Z5 cl).length) c128), (Z1d a127 ((z8 ++ Zm zq1) ++ Z5 cl) c128)]) (R := [zR w, A0, A1, Z0 b10 61 (hc Zz), Z1y (.slice (some ⟨b95, 0, none⟩) 6 6) zq1]) H122 [5, 6] [0, 1, 2, 3, 4] (by decide) kr rfl T126).pk [2, 3, 4, 5, 6, 0, 1]
  refine ⟨_, rfl, ?_⟩
  have S132 := H131.pk [0, 1, 2, 3]
  refine kh S132 <| zhy 9 ?_
  have l139 := ZA seq
  refine zdc 17 (Z0C w125 r102 a127 c128 ((z8 ++ Zm zq1) ++ Z5 cl) (H131.fn [5, 6]) (by simp only [List.length_append, List.length_nil]; omega) seq om) ?_
  rintro _ w134 ⟨a136, c137, rfl, T135⟩
  have H140 := H131.tl [Z0 r102 266 (Z1f a136 ((((z8 ++ Zm zq1) ++ Z5 cl) ++ Z5 seq).length) c137), (Z1d a136 (((z8 ++ Zm zq1) ++ Z5 cl) ++ Z5 seq) c137)] [5, 6] [0, 1, 2, 3, 4] T135 [2, 3, 4, 5, 6, 0, 1]
  refine ⟨_, rfl, ?_⟩
  have S141 := H140.pk [0, 1, 2, 3]
  refine kh S141 <| hv0 10 S141 7 (pt r102 0) <| zhf <| ztn <| zsl <| wv 18 (pt r102 0) <| zwN 19 (hc x) (H140.at 2 rfl) <| zy ?_
  have l148 := x.len
  refine zdc 20 (Z2t w134 r102 a136 c137 (((z8 ++ Zm zq1) ++ Z5 cl) ++ Z5 seq) (H140.fn [5, 6]) (by simp only [List.length_append, List.length_nil]; omega) x) ?_
  rintro _ w143 ⟨a145, c146, rfl, T144⟩
  have H149 : Sat w [zR w, A0, A1, Z0 b10 61 (hc Zz), Z1y (.slice (some ⟨b95, 0, none⟩) 6 6) zq1, Z0 r102 266 (Z1f a145 (((((z8 ++ Zm zq1) ++ Z5 cl) ++ Z5 seq) ++ x.l).length) c146), (Z1d a145 ((((z8 ++ Zm zq1) ++ Z5 cl) ++ Z5 seq) ++ x.l) c146)] w143 := (Sat.turnL (L' := [Z0 r102 266 (Z1f a145 (((((z8 ++ Zm zq1) ++ Z5 cl) ++ Z5 seq) ++ x.l).length) c146), (Z1d a145 ((((z8 ++ Zm zq1) ++ Z5 cl) ++ Z5 seq) ++ x.l) c146)]) (R := [zR w, A0, A1, Z0 b10 61 (hc Zz), Z1y (.slice (some ⟨b95, 0, none⟩) 6 6) zq1]) H140 [5, 6] [0, 1, 2, 3, 4] (by decide) kr rfl T144).pk [2, 3, 4, 5, 6, 0, 1]
  refine ⟨_, rfl, ?_⟩
  refine kk <| wv 21 (.slice pa p.length pc) <| zy ?_
  have l156 := Z0K p
  refine zdc 22 (Z2c w143 r102 a145 c146 ((((z8 ++ Zm zq1) ++ Z5 cl) ++ Z5 seq) ++ x.l) (H149.fn [5, 6]) (by simp only [List.length_append, List.length_nil]; omega) pa pc p (ListAt.now H149 0 rfl hp) (Z80 Zw (by decide) H149 [5, 6] 0 rfl rfl (by decide) hp) om) ?_
  rintro _ w151 ⟨a153, c154, rfl, T152⟩
  have H157 := H149.tl [Z0 r102 266 (Z1f a153 ((((((z8 ++ Zm zq1) ++ Z5 cl) ++ Z5 seq) ++ x.l) ++ Zm p).length) c154), (Z1d a153 (((((z8 ++ Zm zq1) ++ Z5 cl) ++ Z5 seq) ++ x.l) ++ Zm p) c154)] [5, 6] [0, 1, 2, 3, 4] T152 [2, 3, 4, 5, 6, 0, 1]
  refine ⟨_, rfl, ?_⟩
  refine kk <| zy <| zdc 23 (Z26 w151 r102 a153 c154 (((((z8 ++ Zm zq1) ++ Z5 cl) ++ Z5 seq) ++ x.l) ++ Zm p) (H157.fn [5, 6]) (by simp only [List.length_append, List.length_nil]; omega)) ?_
  rintro _ w159 ⟨u160, rfl, T161⟩
  have H162 : Sat w [zR w, A0, A1, Z0 b10 61 (hc Zz), Z1y (.slice (some ⟨b95, 0, none⟩) 6 6) zq1, Z0 r102 266 (Z1f a153 ((((((z8 ++ Zm zq1) ++ Z5 cl) ++ Z5 seq) ++ x.l) ++ Zm p).length) c154), (Z1d a153 (((((z8 ++ Zm zq1) ++ Z5 cl) ++ Z5 seq) ++ x.l) ++ Zm p) c154), Zo 5 1 u160 ((((((z8 ++ Zm zq1) ++ Z5 cl) ++ Z5 seq) ++ x.l) ++ Zm p).length) ((((((z8 ++ Zm zq1) ++ Z5 cl) ++ Z5 seq) ++ x.l) ++ Zm p).flatMap Zx)] w159 := (Sat.turnL (L' := [Z0 r102 266 (Z1f a153 ((((((z8 ++ Zm zq1) ++ Z5 cl) ++ Z5 seq) ++ x.l) ++ Zm p).length) c154), (Z1d a153 (((((z8 ++ Zm zq1) ++ Z5 cl) ++ Z5 seq) ++ x.l) ++ Zm p) c154), Zo 5 1 u160 ((((((z8 ++ Zm zq1) ++ Z5 cl) ++ Z5 seq) ++ x.l) ++ Zm p).length) ((((((z8 ++ Zm zq1) ++ Z5 cl) ++ Z5 seq) ++ x.l) ++ Zm p).flatMap Zx)]) (R := [zR w, A0, A1, Z0 b10 61 (hc Zz), Z1y (.slice (some ⟨b95, 0, none⟩) 6 6) zq1]) H157 [5, 6] [0, 1, 2, 3, 4] (by decide) kr rfl T161).pk [3, 4, 5, 6, 7, 0, 1, 2]
  obtain ⟨a163, c164, rfl⟩ := Z3 (H162.at 7 rfl)
  refine ⟨_, rfl, ?_⟩
  refine kk <| zy <| zdq 24 (Z8h w159 a163 c164 (((((z8 ++ Zm zq1) ++ Z5 cl) ++ Z5 seq) ++ x.l) ++ Zm p) (ListAt.row (enc := Zx) (sz := 1) Zw (by decide) (H162.at 7 rfl)) (Z9r cl seq x p hlp)) H162 fun w166 H167 => ?_
  refine kk <| zy <| Z1S (hc (Z0E (((((z8 ++ Zm zq1) ++ Z5 cl) ++ Z5 seq) ++ x.l) ++ Zm p))) H167 3 fun w170 H171 => ?_
  refine kk <| znt <| Zk <| Z5v rfl (Z02 (vs := (hc (Z0E (((((z8 ++ Zm zq1) ++ Z5 cl) ++ Z5 seq) ++ x.l) ++ Zm p)))) rfl kr kr kn (H171.at 3 rfl) kr) ?_
  exact ⟨by rw [Z83], H171.upd 0 rfl [] ne⟩
 refine Z1l (e := 5) (s := zq1) rfl H98 4 rfl kr kr rfl ?_
 intro w173 (H174 : Sat w [zR w, A0, A1, Z0 b10 61 (hc Zz), Z1y (.slice (some ⟨b95, 0, none⟩) 6 6) zq1] w173)
 have S175 := H174.pk [0, 1, 2, 3]
 refine kq _ _ S175 <| zhy 0 ?_
 refine zdc 8 (Z42 w173) ?_
 rintro _ w177 ⟨r178, a179, c180, rfl, k181, p182, q183⟩
 have H184 := H174.addU p182 k181 q183
 have H185 : Sat w [zR w, A0, A1, Z0 b10 61 (hc Zz), Z1y (.slice (some ⟨b95, 0, none⟩) 6 6) zq1, Z0 r178 266 (Z1f a179 (z8.length) c180), (Z1d a179 (z8) c180)] w177 := H184.open 5 rfl
 refine ⟨_, rfl, ?_⟩
 have S186 := H185.pk [0, 1, 2, 3]
 refine kh S186 <| zhy 3 ?_
 have l193 := (show (Zm zq1).length ≤ 16 from Z0K _)
 refine zdc 11 (Z2c w177 r178 a179 c180 z8 (H185.fn [5, 6]) (by simp) (some ⟨b95, 0, none⟩) 6 zq1 (ListAt.ofTxt (H185.at 4 rfl)) (Z4Y (fun b hb => H185.offP [5, 6] 4 rfl rfl (by decide) hb)) (by first | omega | simp)) ?_
 rintro _ w188 ⟨a190, c191, rfl, T189⟩
 have H194 := H185.tl [Z0 r178 266 (Z1f a190 ((z8 ++ Zm zq1).length) c191), (Z1d a190 (z8 ++ Zm zq1) c191)] [5, 6] [0, 1, 2, 3, 4] T189 [2, 3, 4, 5, 6, 0, 1]
 refine ⟨_, rfl, ?_⟩
 have S195 := H194.pk [0, 1, 2, 3]
 refine kh S195 <| zhy 6 ?_
 have l202 := ZA cl
 refine zdc 14 (Z0C w188 r178 a190 c191 (z8 ++ Zm zq1) (H194.fn [5, 6]) (by simp only [List.length_append, List.length_nil]; omega) cl om) ?_
 rintro _ w197 ⟨a199, c200, rfl, T198⟩
 have H203 : Sat w [zR w, A0, A1, Z0 b10 61 (hc Zz), Z1y (.slice (some ⟨b95, 0, none⟩) 6 6) zq1, Z0 r178 266 (Z1f a199 (((z8 ++ Zm zq1) ++ Z5 cl).length) c200), (Z1d a199 ((z8 ++ Zm zq1) ++ Z5 cl) c200)] w197 := (Sat.turnL (L' := [Z0 r178 266 (Z1f a199 (((z8 ++ Zm zq1) ++ Z5 cl).length) c200), (Z1d a199 ((z8 ++ Zm zq1) ++ Z5 cl) c200)]) (R := [zR w, A0, A1, Z0 b10 61 (hc Zz), Z1y (.slice (some ⟨b95, 0, none⟩) 6 6) zq1]) H194 [5, 6] [0, 1, 2, 3, 4] (by decide) kr rfl T198).pk [2, 3, 4, 5, 6, 0, 1]
 refine ⟨_, rfl, ?_⟩
 have S204 := H203.pk [0, 1, 2, 3]
 refine kh S204 <| zhy 9 ?_
 have l211 := ZA seq
 refine zdc 17 (Z0C w197 r178 a199 c200 ((z8 ++ Zm zq1) ++ Z5 cl) (H203.fn [5, 6]) (by simp only [List.length_append, List.length_nil]; omega) seq om) ?_
 rintro _ w206 ⟨a208, c209, rfl, T207⟩
 have H212 := H203.tl [Z0 r178 266 (Z1f a208 ((((z8 ++ Zm zq1) ++ Z5 cl) ++ Z5 seq).length) c209), (Z1d a208 (((z8 ++ Zm zq1) ++ Z5 cl) ++ Z5 seq) c209)] [5, 6] [0, 1, 2, 3, 4] T207 [2, 3, 4, 5, 6, 0, 1]
 refine ⟨_, rfl, ?_⟩
 have S213 := H212.pk [0, 1, 2, 3]
 refine kh S213 <| hv0 10 S213 7 (pt r178 0) <| zhf <| ztn <| zsl <| wv 18 (pt r178 0) <| zwN 19 (hc x) (H212.at 2 rfl) <| zy ?_
 have l220 := x.len
 refine zdc 20 (Z2t w206 r178 a208 c209 (((z8 ++ Zm zq1) ++ Z5 cl) ++ Z5 seq) (H212.fn [5, 6]) (by simp only [List.length_append, List.length_nil]; omega) x) ?_
 rintro _ w215 ⟨a217, c218, rfl, T216⟩
 have H221 : Sat w [zR w, A0, A1, Z0 b10 61 (hc Zz), Z1y (.slice (some ⟨b95, 0, none⟩) 6 6) zq1, Z0 r178 266 (Z1f a217 (((((z8 ++ Zm zq1) ++ Z5 cl) ++ Z5 seq) ++ x.l).length) c218), (Z1d a217 ((((z8 ++ Zm zq1) ++ Z5 cl) ++ Z5 seq) ++ x.l) c218)] w215 := (Sat.turnL (L' := [Z0 r178 266 (Z1f a217 (((((z8 ++ Zm zq1) ++ Z5 cl) ++ Z5 seq) ++ x.l).length) c218), (Z1d a217 ((((z8 ++ Zm zq1) ++ Z5 cl) ++ Z5 seq) ++ x.l) c218)]) (R := [zR w, A0, A1, Z0 b10 61 (hc Zz), Z1y (.slice (some ⟨b95, 0, none⟩) 6 6) zq1]) H212 [5, 6] [0, 1, 2, 3, 4] (by decide) kr rfl T216).pk [2, 3, 4, 5, 6, 0, 1]
 refine ⟨_, rfl, ?_⟩
 refine kk <| wv 21 (.slice pa p.length pc) <| zy ?_
 have l228 := Z0K p
 refine zdc 22 (Z2c w215 r178 a217 c218 ((((z8 ++ Zm zq1) ++ Z5 cl) ++ Z5 seq) ++ x.l) (H221.fn [5, 6]) (by simp only [List.length_append, List.length_nil]; omega) pa pc p (ListAt.now H221 0 rfl hp) (Z80 Zw (by decide) H221 [5, 6] 0 rfl rfl (by decide) hp) om) ?_
 rintro _ w223 ⟨a225, c226, rfl, T224⟩
 have H229 := H221.tl [Z0 r178 266 (Z1f a225 ((((((z8 ++ Zm zq1) ++ Z5 cl) ++ Z5 seq) ++ x.l) ++ Zm p).length) c226), (Z1d a225 (((((z8 ++ Zm zq1) ++ Z5 cl) ++ Z5 seq) ++ x.l) ++ Zm p) c226)] [5, 6] [0, 1, 2, 3, 4] T224 [2, 3, 4, 5, 6, 0, 1]
 refine ⟨_, rfl, ?_⟩
 refine kk <| zy <| zdc 23 (Z26 w223 r178 a225 c226 (((((z8 ++ Zm zq1) ++ Z5 cl) ++ Z5 seq) ++ x.l) ++ Zm p) (H229.fn [5, 6]) (by simp only [List.length_append, List.length_nil]; omega)) ?_
 rintro _ w231 ⟨u232, rfl, T233⟩
 have H234 : Sat w [zR w, A0, A1, Z0 b10 61 (hc Zz), Z1y (.slice (some ⟨b95, 0, none⟩) 6 6) zq1, Z0 r178 266 (Z1f a225 ((((((z8 ++ Zm zq1) ++ Z5 cl) ++ Z5 seq) ++ x.l) ++ Zm p).length) c226), (Z1d a225 (((((z8 ++ Zm zq1) ++ Z5 cl) ++ Z5 seq) ++ x.l) ++ Zm p) c226), Zo 5 1 u232 ((((((z8 ++ Zm zq1) ++ Z5 cl) ++ Z5 seq) ++ x.l) ++ Zm p).length) ((((((z8 ++ Zm zq1) ++ Z5 cl) ++ Z5 seq) ++ x.l) ++ Zm p).flatMap Zx)] w231 := (Sat.turnL (L' := [Z0 r178 266 (Z1f a225 ((((((z8 ++ Zm zq1) ++ Z5 cl) ++ Z5 seq) ++ x.l) ++ Zm p).length) c226), (Z1d a225 (((((z8 ++ Zm zq1) ++ Z5 cl) ++ Z5 seq) ++ x.l) ++ Zm p) c226), Zo 5 1 u232 ((((((z8 ++ Zm zq1) ++ Z5 cl) ++ Z5 seq) ++ x.l) ++ Zm p).length) ((((((z8 ++ Zm zq1) ++ Z5 cl) ++ Z5 seq) ++ x.l) ++ Zm p).flatMap Zx)]) (R := [zR w, A0, A1, Z0 b10 61 (hc Zz), Z1y (.slice (some ⟨b95, 0, none⟩) 6 6) zq1]) H229 [5, 6] [0, 1, 2, 3, 4] (by decide) kr rfl T233).pk [3, 4, 5, 6, 7, 0, 1, 2]
 obtain ⟨a235, c236, rfl⟩ := Z3 (H234.at 7 rfl)
 refine ⟨_, rfl, ?_⟩
 refine kk <| zy <| zdq 24 (Z8h w231 a235 c236 (((((z8 ++ Zm zq1) ++ Z5 cl) ++ Z5 seq) ++ x.l) ++ Zm p) (ListAt.row (enc := Zx) (sz := 1) Zw (by decide) (H234.at 7 rfl)) (Z9r cl seq x p hlp)) H234 fun w238 H239 => ?_
 refine kk <| zy <| Z1S (hc (Z0E (((((z8 ++ Zm zq1) ++ Z5 cl) ++ Z5 seq) ++ x.l) ++ Zm p))) H239 3 fun w242 H243 => ?_
 refine kk <| znt <| Zk <| Z5v rfl (Z02 (vs := (hc (Z0E (((((z8 ++ Zm zq1) ++ Z5 cl) ++ Z5 seq) ++ x.l) ++ Zm p)))) rfl kr kr kn (H243.at 3 rfl) kr) ?_
 exact ⟨by rw [Z83], H243.upd 0 rfl [] ne⟩
theorem Z8n (w : World) (y : Hash) (oi : Int) (cl seq : Int) (x : Hash) (pa : Option Addr) (pc : Nat) (p : List UInt8) (hp : ListAt Zx 1 w (.slice pa p.length pc) p) (hcl : cl ≤ 9223372036854775807) (hsq : seq ≤ 9223372036854775807) (hlp : p.length ≤ 1000) :
  Calls Tryz.prog 94 #[(.agg ⟨(hc y)⟩), (.agg ⟨([i6 cl, i6 seq] : LV)⟩), (.agg ⟨(([i6 oi, (.slice pa p.length pc)] : LV) ++ hc x)⟩)] w fun e w' => e = .returned (.bool (decide (y = Z0E (ofT cl seq x p)))) ∧ Upd [] w w' := by
 have H := Sat.start0 w
 refine Zg Tryz.func94 rfl 15 rfl kn ?_
 refine zsl <| zy <| zdb (hc y) H ?_
 intro b2 w3 (H4 : Sat w [zR w, Z0 b2 61 (hc y)] w3)
 let A2 := ZbI cl seq
 refine kk <| zy <| zdb A2 H4 fun b6 w7 H8 => ?_
 let A1 := ([(vi oi), (.slice pa p.length pc)] : LV)
 refine kk <| zy <| zdb (A1 ++ hc x) H8 ?_
 intro b10 w11 (H12 : Sat w [zR w, Z0 b2 61 (hc y), Z0 b6 59 A2, Z0 b10 86 (A1 ++ hc x)] w11)
 refine kk <| wv 6 (.bool false) <| znt <| Z9 <| zqs H12 ?_
 refine qv 7 (.agg ⟨(hc y)⟩) ?_ (hr := fun _ H' => (zlN (vs := (hc y)) (H'.at 1 rfl)))
 refine qv 8 (.agg ⟨A2⟩) ?_ (hr := fun _ H' => (zlN (vs := A2) (H'.at 2 rfl)))
 refine qv 9 (pt b10 2) <| qv 10 (.agg ⟨(hc x)⟩) ?_ (hr := fun _ H' => (zlN (vs := (hc x)) (H'.at 3 rfl)))
 refine qv 11 (pt b10 1) <| qv 12 (.slice pa p.length pc) ?_ (hr := fun _ H' => (zl1 (H'.cell 3 rfl kr)))
 refine Z0r (Zc rfl) (d := 13) (v := (.agg ⟨(hc (Z0E (ofT cl seq x p)))⟩)) rfl (fun _ _ => by kernel_rfl) (fun w' H' => (Zf1 w' cl seq x pa pc p (ListAt.now H' 0 rfl hp) hcl hsq hlp).mono fun _ _ h => ⟨h.1, H'.keepU h.2⟩) ?_
 let A0 : Value := .bool (decide (y = (Z0E (ofT cl seq x p))))
 refine qv 14 A0 ?_ (hr := fun _ H' => (Zan y (Z0E (ofT cl seq x p)) rfl rfl))
 refine qv 6 A0 <| Z01 fun w13 H14 => ?_
 refine ztn <| Zk <| ze1 A0 ?_
 exact ⟨rfl, H14.upd 0 rfl [] ne⟩
end Go.Proofs.YtenihpghfdcpkaaGreat
