/- WHAT IS PROVED: contracts and plain laws of OfP. Conditions: stated with each. -/
import Derived.Test.YtgigjkjdmalmaaaGreatPY05
import Derived.Test.YtgigjkjdmalmaaaGreatPY08
import Derived.Test.YtgigjkjdmalmaaaGreatPY09
import Derived.Test.YtgigjkjdmalmaaaGreatPY18
set_option maxHeartbeats 4000000
set_option maxRecDepth 100000
namespace Go.Proofs.YtgigjkjdmalmaaaGreat
open Go.RowKit
abbrev Z0M (p0 : Int) (p1 : Int) : List Value := ([(.int .i64 p0), (.int .i64 p1)] : List Value)
abbrev Z0E (p0 : Option Addr) (p1 : Nat) (p2 : Nat) : List Value := ([(.slice p0 p1 p2)] : List Value)
abbrev Z0F (p0 : Option Addr) (p1 : List UInt8) (p2 : Nat) : Ck := Zc 5 1 (.slice p0 p1.length p2) p1.length (p1.flatMap ZH)
abbrev Z5a : List Value := ([(.int .u8 (99)), (.int .u8 (111)), (.int .u8 (109)), (.int .u8 (109)), (.int .u8 (105)), (.int .u8 (116))] : List Value)
theorem Z8C {va : Option Addr} {n c n' c' : Nat} {ad : Addr} (h : Value.slice va n c = .slice (some ad) n' c') : va = some ad := by
 simp only [Value.slice.injEq] at h; exact h.1
theorem Z5Y {α : Type} {enc : α → List Value} {sz : Nat} (hs : ∀ x, (enc x).length = sz) (h0 : 0 < sz) {W w : World} {G : List Ck} (H : Sat W G w) (is : List Nat) (j : Nat) {B : List Ck} (hB : (is.filterMap fun i => G[i]?) = B) (hj : G[j]? = some (Z7 W fun _ => False)) (hne : is.all (fun i => !Nat.beq i j) = true) {va : Option Addr} {n vc : Nat} {ls : List α} (hv : ListAt enc sz W (.slice va n vc) ls) : 0 < ls.length → ∀ a, va = some a → ¬ (ZL B).fp a.block := by
 intro h1 a ha hfp
 obtain ⟨vb, vo, vc', hva, hvs⟩ := hv.cells hs h0 h1
 have h2 := Z8C hva
 rw [h2] at ha
 obtain rfl := (Option.some.inj ha)
 have hl : 0 < (ls.flatMap enc).length := by rw [Z1p enc sz hs]; exact Nat.mul_pos h1 h0
 have hc := hvs 0 _ (List.getElem?_eq_getElem hl)
 rw [Addr.add_lit] at hc
 have hlt := World.block_lt_of_cell? W _ hc
 subst hB
 obtain ⟨A, hA, hAf⟩ := hfp
 obtain ⟨i, hi, he⟩ := List.mem_filterMap.1 hA
 have hij : Nat.beq i j = false := by simpa using List.all_eq_true.1 hne i hi
 exact H.apart i j he hj hij _ hAf ⟨hlt, fun h => h⟩
theorem Z9W (w : World) (cl seq : Int) (x : Z1e) (pa : Option Addr) (pc : Nat) (p : List UInt8) (hp : ListAt ZH 1 w (.slice pa p.length pc) p) (hcl : cl ≤ 9223372036854775807) (hsq : seq ≤ 9223372036854775807) (hlp : p.length ≤ 1000) :
  Calls Tryz.prog 47 #[(.agg ⟨([(.int .i64 (cl)), (.int .i64 (seq))] : List Value)⟩), (.agg ⟨(hc x)⟩), (.slice pa p.length pc)] w fun e w' => e = .returned (.agg ⟨hc (Z8 (ofT cl seq x p))⟩) ∧ Upd [] w w' := by
 have H := Sat.start0 w
 refine Zg Tryz.func47 rfl 25 rfl (Nat.le_of_ble_eq_true rfl) ?_
 apply zsl
 refine zwd fun Kq kq => ?_
 refine zdb (Z0M cl seq) H ?_
 intro b2 w3 H4
 refine kq _ _ ?_
 clear kq Kq
 refine zwd fun Kq kq => ?_
 refine zdb (hc x) H4 ?_
 intro b6 w7 (H8 : Sat w [Z7 w (fun _ => False), Z3 b2 43 (Z0M cl seq), Z3 b6 40 (hc x)] w7)
 refine kq _ _ ?_
 clear kq Kq
 refine zwd fun Kq kq => ?_
 refine zda (hc Zx) H8 ?_
 intro b10 w11 H12
 refine kq _ _ ?_
 clear kq Kq
 apply znt
 apply Zf
 refine Z0b H12 [Z7 w (fun _ => False), Z3 b2 43 (Z0M cl seq), Z3 b6 40 (hc x), Z3 b10 40 (hc Zx)] 11 rfl (by kernel_rfl) (fun Hx => (Hx.pk [0, 1, 2, 3])) ?_
 intro w13 H14 S15
 refine hv0 4 S15 12 (pt b2 0) ?_
 refine hv0 5 S15 13 (.int .i64 (cl)) ?_ (he := fun _ H' => (Zi rfl (by kernel_rfl) (H'.cell 1 rfl rfl)))
 refine hv0 7 S15 15 (pt b2 1) ?_
 refine hv0 8 S15 16 (.int .i64 (seq)) ?_ (he := fun _ H' => (Zi rfl (by kernel_rfl) (H'.cell 1 rfl rfl)))
 refine Z3W 0 1 rfl rfl (by kernel_rfl) (Z5 rfl) (Z5 rfl) (fun Kq kq => ?_) (fun Kq kq => ?_)
 ·refine zdc 8 (Z2b w13) ?_
  rintro _ w17 ⟨r18, a19, c20, rfl, k21, p22, q23⟩
  have H24 : Sat w [Z7 w (fun _ => False), Z3 b2 43 (Z0M cl seq), Z3 b6 40 (hc x), Z3 b10 40 (hc Zx), ZL (wrL r18 a19 c20 ([] : List UInt8))] w17 := H14.addU p22 k21 q23
  have H25 := H24.open 4 rfl
  refine ⟨_, rfl, ?_⟩
  have S26 := H25.pk [0, 1, 2, 3]
  refine kq _ _ S26 ?_
  clear kq Kq
  refine Z0H 1 fun Kq kq => ?_
  refine Z3U 5 1 1 (.int .u8 (0)) [(0, (.int .u8 (99))), (1, (.int .u8 (111))), (2, (.int .u8 (109))), (3, (.int .u8 (109))), (4, (.int .u8 (105))), (5, (.int .u8 (116)))] (Z5a) H25 ?_
  intro b28 w29 (H30 : Sat w [Z7 w (fun _ => False), Z3 b2 43 (Z0M cl seq), Z3 b6 40 (hc x), Z3 b10 40 (hc Zx), Z3 r18 187 (Z0E a19 (([] : List UInt8).length) c20), (Z0F a19 (([] : List UInt8)) c20), Zc 5 1 (.slice (some ⟨b28, 0, none⟩) 6 6) 6 (Z5a)] w29)
  have H31 := H30.ct 6 rfl (Zc 5 1 (.slice (some ⟨b28, 0, none⟩) 6 6) 6 ([99, 111, 109, 109, 105, 116].flatMap ZH)) (by rw [show ((Z5a) : List Value) = [99, 111, 109, 109, 105, 116].flatMap ZH from rfl])
  have S32 := H31.pk [0, 1, 2, 3]
  refine kq _ _ S32 ?_
  clear kq Kq
  refine Z0H 2 fun Kq kq => ?_
  refine Z1n (e := 5) (s := [99, 111, 109, 109, 105, 116]) rfl H31 6 rfl (by kernel_rfl) (by kernel_rfl) rfl ?_
  intro w34 (H35 : Sat w [Z7 w (fun _ => False), Z3 b2 43 (Z0M cl seq), Z3 b6 40 (hc x), Z3 b10 40 (hc Zx), Z3 r18 187 (Z0E a19 (([] : List UInt8).length) c20), (Z0F a19 (([] : List UInt8)) c20), ZX (.slice (some ⟨b28, 0, none⟩) 6 6) ([99, 111, 109, 109, 105, 116])] w34)
  have S36 := H35.pk [0, 1, 2, 3]
  refine kq _ _ S36 ?_
  clear kq Kq
  refine Z0H 3 fun Kq kq => ?_
  have l43 := (show (Zs [99, 111, 109, 109, 105, 116]).length ≤ 16 from Z10 _)
  refine zdc 11 (Z19 w34 r18 a19 c20 ([] : List UInt8) (H35.fn [4, 5]) (by simp) (some ⟨b28, 0, none⟩) 6 ([99, 111, 109, 109, 105, 116]) (ListAt.ofTxt (H35.at 6 rfl)) (Z2W (fun b hb => H35.offP [4, 5] 6 rfl rfl (by decide) hb)) (by first | omega | simp)) ?_
  rintro _ w38 ⟨a40, c41, rfl, T39⟩
  have H44 := H35.tl [Z3 r18 187 (Z0E a40 ((([] : List UInt8) ++ Zs ([99, 111, 109, 109, 105, 116])).length) c41), (Z0F a40 (([] : List UInt8) ++ Zs ([99, 111, 109, 109, 105, 116])) c41)] [4, 5] [0, 1, 2, 3, 6] T39 [2, 3, 4, 5, 0, 1, 6]
  refine ⟨_, rfl, ?_⟩
  have S45 := H44.pk [0, 1, 2, 3]
  refine kq _ _ S45 ?_
  clear kq Kq
  refine Z0H 6 fun Kq kq => ?_
  have l52 := Z0g cl
  refine zdc 14 (Z0z w38 r18 a40 c41 (([] : List UInt8) ++ Zs ([99, 111, 109, 109, 105, 116])) (H44.fn [4, 5]) (by simp only [List.length_append, List.length_nil]; omega) cl (by omega)) ?_
  rintro _ w47 ⟨a49, c50, rfl, T48⟩
  have H53 : Sat w [Z7 w (fun _ => False), Z3 b2 43 (Z0M cl seq), Z3 b6 40 (hc x), Z3 b10 40 (hc Zx), Z3 r18 187 (Z0E a49 (((([] : List UInt8) ++ Zs ([99, 111, 109, 109, 105, 116])) ++ Zl cl).length) c50), (Z0F a49 ((([] : List UInt8) ++ Zs ([99, 111, 109, 109, 105, 116])) ++ Zl cl) c50), ZX (.slice (some ⟨b28, 0, none⟩) 6 6) ([99, 111, 109, 109, 105, 116])] w47 := (Sat.turnL (L' := [Z3 r18 187 (Z0E a49 (((([] : List UInt8) ++ Zs ([99, 111, 109, 109, 105, 116])) ++ Zl cl).length) c50), (Z0F a49 ((([] : List UInt8) ++ Zs ([99, 111, 109, 109, 105, 116])) ++ Zl cl) c50)]) (R := [Z7 w (fun _ => False), Z3 b2 43 (Z0M cl seq), Z3 b6 40 (hc x), Z3 b10 40 (hc Zx), ZX (.slice (some ⟨b28, 0, none⟩) 6 6) ([99, 111, 109, 109, 105, 116])]) H44 [4, 5] [0, 1, 2, 3, 6] (by decide) (by kernel_rfl) rfl T48).pk [2, 3, 4, 5, 0, 1, 6]
  refine ⟨_, rfl, ?_⟩
  have S54 := H53.pk [0, 1, 2, 3]
  refine kq _ _ S54 ?_
  clear kq Kq
  refine Z0H 9 fun Kq kq => ?_
  have l61 := Z0g seq
  refine zdc 17 (Z0z w47 r18 a49 c50 ((([] : List UInt8) ++ Zs ([99, 111, 109, 109, 105, 116])) ++ Zl cl) (H53.fn [4, 5]) (by simp only [List.length_append, List.length_nil]; omega) seq (by omega)) ?_
  rintro _ w56 ⟨a58, c59, rfl, T57⟩
  have H62 := H53.tl [Z3 r18 187 (Z0E a58 ((((([] : List UInt8) ++ Zs ([99, 111, 109, 109, 105, 116])) ++ Zl cl) ++ Zl seq).length) c59), (Z0F a58 (((([] : List UInt8) ++ Zs ([99, 111, 109, 109, 105, 116])) ++ Zl cl) ++ Zl seq) c59)] [4, 5] [0, 1, 2, 3, 6] T57 [2, 3, 4, 5, 0, 1, 6]
  refine ⟨_, rfl, ?_⟩
  have S63 := H62.pk [0, 1, 2, 3]
  refine kq _ _ S63 ?_
  clear kq Kq
  refine hv0 10 S63 7 (pt r18 0) ?_
  refine zhf ?_
  apply ztn
  apply zsl
  refine wv 18 (pt r18 0) ?_
  refine zwN 19 (hc x) (H62.at 2 rfl) ?_
  refine zwd fun Kq kq => ?_
  have l70 := x.len
  refine zdc 20 (Z1u w56 r18 a58 c59 (((([] : List UInt8) ++ Zs ([99, 111, 109, 109, 105, 116])) ++ Zl cl) ++ Zl seq) (H62.fn [4, 5]) (by simp only [List.length_append, List.length_nil]; omega) x) ?_
  rintro _ w65 ⟨a67, c68, rfl, T66⟩
  have H71 : Sat w [Z7 w (fun _ => False), Z3 b2 43 (Z0M cl seq), Z3 b6 40 (hc x), Z3 b10 40 (hc Zx), Z3 r18 187 (Z0E a67 (((((([] : List UInt8) ++ Zs ([99, 111, 109, 109, 105, 116])) ++ Zl cl) ++ Zl seq) ++ x.l).length) c68), (Z0F a67 ((((([] : List UInt8) ++ Zs ([99, 111, 109, 109, 105, 116])) ++ Zl cl) ++ Zl seq) ++ x.l) c68), ZX (.slice (some ⟨b28, 0, none⟩) 6 6) ([99, 111, 109, 109, 105, 116])] w65 := (Sat.turnL (L' := [Z3 r18 187 (Z0E a67 (((((([] : List UInt8) ++ Zs ([99, 111, 109, 109, 105, 116])) ++ Zl cl) ++ Zl seq) ++ x.l).length) c68), (Z0F a67 ((((([] : List UInt8) ++ Zs ([99, 111, 109, 109, 105, 116])) ++ Zl cl) ++ Zl seq) ++ x.l) c68)]) (R := [Z7 w (fun _ => False), Z3 b2 43 (Z0M cl seq), Z3 b6 40 (hc x), Z3 b10 40 (hc Zx), ZX (.slice (some ⟨b28, 0, none⟩) 6 6) ([99, 111, 109, 109, 105, 116])]) H62 [4, 5] [0, 1, 2, 3, 6] (by decide) (by kernel_rfl) rfl T66).pk [2, 3, 4, 5, 0, 1, 6]
  refine ⟨_, rfl, ?_⟩
  refine kq _ _ ?_
  clear kq Kq
  refine wv 21 (.slice pa p.length pc) ?_
  refine zwd fun Kq kq => ?_
  have l78 := Z10 p
  refine zdc 22 (Z19 w65 r18 a67 c68 ((((([] : List UInt8) ++ Zs ([99, 111, 109, 109, 105, 116])) ++ Zl cl) ++ Zl seq) ++ x.l) (H71.fn [4, 5]) (by simp only [List.length_append, List.length_nil]; omega) pa pc p (ListAt.now H71 0 rfl hp) (Z5Y Z0u (by decide) H71 [4, 5] 0 rfl rfl (by decide) hp) (by omega)) ?_
  rintro _ w73 ⟨a75, c76, rfl, T74⟩
  have H79 := H71.tl [Z3 r18 187 (Z0E a75 ((((((([] : List UInt8) ++ Zs ([99, 111, 109, 109, 105, 116])) ++ Zl cl) ++ Zl seq) ++ x.l) ++ Zs p).length) c76), (Z0F a75 (((((([] : List UInt8) ++ Zs ([99, 111, 109, 109, 105, 116])) ++ Zl cl) ++ Zl seq) ++ x.l) ++ Zs p) c76)] [4, 5] [0, 1, 2, 3, 6] T74 [2, 3, 4, 5, 0, 1, 6]
  refine ⟨_, rfl, ?_⟩
  refine kq _ _ ?_
  clear kq Kq
  refine zwd fun Kq kq => ?_
  refine zdc 23 (Z1i w73 r18 a75 c76 (((((([] : List UInt8) ++ Zs ([99, 111, 109, 109, 105, 116])) ++ Zl cl) ++ Zl seq) ++ x.l) ++ Zs p) (H79.fn [4, 5]) (by simp only [List.length_append, List.length_nil]; omega)) ?_
  rintro _ w81 ⟨u82, rfl, T83⟩
  have H84 : Sat w [Z7 w (fun _ => False), Z3 b2 43 (Z0M cl seq), Z3 b6 40 (hc x), Z3 b10 40 (hc Zx), Z3 r18 187 (Z0E a75 ((((((([] : List UInt8) ++ Zs ([99, 111, 109, 109, 105, 116])) ++ Zl cl) ++ Zl seq) ++ x.l) ++ Zs p).length) c76), (Z0F a75 (((((([] : List UInt8) ++ Zs ([99, 111, 109, 109, 105, 116])) ++ Zl cl) ++ Zl seq) ++ x.l) ++ Zs p) c76), ZX (.slice (some ⟨b28, 0, none⟩) 6 6) ([99, 111, 109, 109, 105, 116]), Zc 5 1 u82 ((((((([] : List UInt8) ++ Zs ([99, 111, 109, 109, 105, 116])) ++ Zl cl) ++ Zl seq) ++ x.l) ++ Zs p).length) ((((((([] : List UInt8) ++ Zs ([99, 111, 109, 109, 105, 116])) ++ Zl cl) ++ Zl seq) ++ x.l) ++ Zs p).flatMap ZH)] w81 := (Sat.turnL (L' := [Z3 r18 187 (Z0E a75 ((((((([] : List UInt8) ++ Zs ([99, 111, 109, 109, 105, 116])) ++ Zl cl) ++ Zl seq) ++ x.l) ++ Zs p).length) c76), (Z0F a75 (((((([] : List UInt8) ++ Zs ([99, 111, 109, 109, 105, 116])) ++ Zl cl) ++ Zl seq) ++ x.l) ++ Zs p) c76), Zc 5 1 u82 ((((((([] : List UInt8) ++ Zs ([99, 111, 109, 109, 105, 116])) ++ Zl cl) ++ Zl seq) ++ x.l) ++ Zs p).length) ((((((([] : List UInt8) ++ Zs ([99, 111, 109, 109, 105, 116])) ++ Zl cl) ++ Zl seq) ++ x.l) ++ Zs p).flatMap ZH)]) (R := [Z7 w (fun _ => False), Z3 b2 43 (Z0M cl seq), Z3 b6 40 (hc x), Z3 b10 40 (hc Zx), ZX (.slice (some ⟨b28, 0, none⟩) 6 6) ([99, 111, 109, 109, 105, 116])]) H79 [4, 5] [0, 1, 2, 3, 6] (by decide) (by kernel_rfl) rfl T83).pk [3, 4, 5, 6, 0, 1, 7, 2]
  obtain ⟨a85, c86, rfl⟩ := Ze (H84.at 7 rfl)
  refine ⟨_, rfl, ?_⟩
  refine kq _ _ ?_
  clear kq Kq
  refine zwd fun Kq kq => ?_
  refine zdq 24 (Z64 w81 a85 c86 (((((([] : List UInt8) ++ Zs ([99, 111, 109, 109, 105, 116])) ++ Zl cl) ++ Zl seq) ++ x.l) ++ Zs p) (ListAt.row (enc := ZH) (sz := 1) Z0u (by decide) (H84.at 7 rfl)) (Z7y cl seq x p hlp)) H84 ?_
  intro w88 H89
  refine kq _ _ ?_
  clear kq Kq
  refine zwd fun Kq kq => ?_
  refine Z21 (hc (Z8 (((((([] : List UInt8) ++ Zs ([99, 111, 109, 109, 105, 116])) ++ Zl cl) ++ Zl seq) ++ x.l) ++ Zs p))) H89 3 ?_
  intro w92 H93
  refine kq _ _ ?_
  clear kq Kq
  apply znt
  apply Zz
  refine Z1x rfl (Z02 (vs := (hc (Z8 (((((([] : List UInt8) ++ Zs ([99, 111, 109, 109, 105, 116])) ++ Zl cl) ++ Zl seq) ++ x.l) ++ Zs p)))) rfl (by kernel_rfl) (by kernel_rfl) (by exact Nat.le_of_ble_eq_true (by kernel_rfl)) (H93.at 3 rfl) (by kernel_rfl)) ?_
  exact ⟨by rw [Z62], H93.upd 0 rfl [] (fun _ h => h.elim)⟩
 refine Z3U 5 1 1 (.int .u8 (0)) [(0, (.int .u8 (99))), (1, (.int .u8 (111))), (2, (.int .u8 (109))), (3, (.int .u8 (109))), (4, (.int .u8 (105))), (5, (.int .u8 (116)))] (Z5a) H14 ?_
 intro b95 w96 (H97 : Sat w [Z7 w (fun _ => False), Z3 b2 43 (Z0M cl seq), Z3 b6 40 (hc x), Z3 b10 40 (hc Zx), Zc 5 1 (.slice (some ⟨b95, 0, none⟩) 6 6) 6 (Z5a)] w96)
 have H98 := H97.ct 4 rfl (Zc 5 1 (.slice (some ⟨b95, 0, none⟩) 6 6) 6 ([99, 111, 109, 109, 105, 116].flatMap ZH)) (by rw [show ((Z5a) : List Value) = [99, 111, 109, 109, 105, 116].flatMap ZH from rfl])
 have S99 := H98.pk [0, 1, 2, 3]
 refine kq _ _ S99 ?_
 clear kq Kq
 refine Z3W 0 2 rfl rfl (by kernel_rfl) (Z5 rfl) (Z5 rfl) (fun Kq kq => ?_) (fun Kq kq => ?_)
 ·refine zdc 8 (Z2b w96) ?_
  rintro _ w101 ⟨r102, a103, c104, rfl, k105, p106, q107⟩
  have H108 : Sat w [Z7 w (fun _ => False), Z3 b2 43 (Z0M cl seq), Z3 b6 40 (hc x), Z3 b10 40 (hc Zx), Zc 5 1 (.slice (some ⟨b95, 0, none⟩) 6 6) 6 ([99, 111, 109, 109, 105, 116].flatMap ZH), ZL (wrL r102 a103 c104 ([] : List UInt8))] w101 := H98.addU p106 k105 q107
  have H109 := H108.open 5 rfl
  refine ⟨_, rfl, ?_⟩
  have S110 := H109.pk [0, 1, 2, 3]
  refine kq _ _ S110 ?_
  clear kq Kq
  refine Z0H 2 fun Kq kq => ?_
  refine Z1n (e := 5) (s := [99, 111, 109, 109, 105, 116]) rfl H109 4 rfl (by kernel_rfl) (by kernel_rfl) rfl ?_
  intro w112 (H113 : Sat w [Z7 w (fun _ => False), Z3 b2 43 (Z0M cl seq), Z3 b6 40 (hc x), Z3 b10 40 (hc Zx), ZX (.slice (some ⟨b95, 0, none⟩) 6 6) ([99, 111, 109, 109, 105, 116]), Z3 r102 187 (Z0E a103 (([] : List UInt8).length) c104), (Z0F a103 (([] : List UInt8)) c104)] w112)
  have S114 := H113.pk [0, 1, 2, 3]
  refine kq _ _ S114 ?_
  clear kq Kq
  refine Z0H 3 fun Kq kq => ?_
  have l121 := (show (Zs [99, 111, 109, 109, 105, 116]).length ≤ 16 from Z10 _)
  refine zdc 11 (Z19 w112 r102 a103 c104 ([] : List UInt8) (H113.fn [5, 6]) (by simp) (some ⟨b95, 0, none⟩) 6 ([99, 111, 109, 109, 105, 116]) (ListAt.ofTxt (H113.at 4 rfl)) (Z2W (fun b hb => H113.offP [5, 6] 4 rfl rfl (by decide) hb)) (by first | omega | simp)) ?_
  rintro _ w116 ⟨a118, c119, rfl, T117⟩
  have H122 := H113.tl [Z3 r102 187 (Z0E a118 ((([] : List UInt8) ++ Zs ([99, 111, 109, 109, 105, 116])).length) c119), (Z0F a118 (([] : List UInt8) ++ Zs ([99, 111, 109, 109, 105, 116])) c119)] [5, 6] [0, 1, 2, 3, 4] T117 [2, 3, 4, 5, 6, 0, 1]
  refine ⟨_, rfl, ?_⟩
  have S123 := H122.pk [0, 1, 2, 3]
  refine kq _ _ S123 ?_
  clear kq Kq
  refine Z0H 6 fun Kq kq => ?_
  have l130 := Z0g cl
  refine zdc 14 (Z0z w116 r102 a118 c119 (([] : List UInt8) ++ Zs ([99, 111, 109, 109, 105, 116])) (H122.fn [5, 6]) (by simp only [List.length_append, List.length_nil]; omega) cl (by omega)) ?_
  rintro _ w125 ⟨a127, c128, rfl, T126⟩
  have H131 : Sat w [Z7 w (fun _ => False), Z3 b2 43 (Z0M cl seq), Z3 b6 40 (hc x), Z3 b10 40 (hc Zx), ZX (.slice (some ⟨b95, 0, none⟩) 6 6) ([99, 111, 109, 109, 105, 116]), Z3 r102 187 (Z0E a127 (((([] : List UInt8) ++ Zs ([99, 111, 109, 109, 105, 116])) ++ Zl cl).length) c128), (Z0F a127 ((([] : List UInt8) ++ Zs ([99, 111, 109, 109, 105, 116])) ++ Zl cl) c128)] w125 := (Sat.turnL (L' := [Z3 r102 187 (Z0E a127 (((([] : List UInt8) ++ Zs ([99, 111, 109, 109, 105, 116])) ++ Zl cl).length) c128), (Z0F a127 ((([] : List UInt8) ++ Zs ([99, 111, 109, 109, 105, 116])) ++ Zl cl) c128)]) (R := [Z7 w (fun _ => False), Z3 b2 43 (Z0M cl seq), Z3 b6 40 (hc x), Z3 b10 40 (hc Zx), ZX (.slice (some ⟨b95, 0, none⟩) 6 6) ([99, 111, 109, 109, 105, 116])]) H122 [5, 6] [0, 1, 2, 3, 4] (by decide) (by kernel_rfl) rfl T126).pk [2, 3, 4, 5, 6, 0, 1]
  refine ⟨_, rfl, ?_⟩
  have S132 := H131.pk [0, 1, 2, 3]
  refine kq _ _ S132 ?_
  clear kq Kq
  refine Z0H 9 fun Kq kq => ?_
  have l139 := Z0g seq
  refine zdc 17 (Z0z w125 r102 a127 c128 ((([] : List UInt8) ++ Zs ([99, 111, 109, 109, 105, 116])) ++ Zl cl) (H131.fn [5, 6]) (by simp only [List.length_append, List.length_nil]; omega) seq (by omega)) ?_
  rintro _ w134 ⟨a136, c137, rfl, T135⟩
  have H140 := H131.tl [Z3 r102 187 (Z0E a136 ((((([] : List UInt8) ++ Zs ([99, 111, 109, 109, 105, 116])) ++ Zl cl) ++ Zl seq).length) c137), (Z0F a136 (((([] : List UInt8) ++ Zs ([99, 111, 109, 109, 105, 116])) ++ Zl cl) ++ Zl seq) c137)] [5, 6] [0, 1, 2, 3, 4] T135 [2, 3, 4, 5, 6, 0, 1]
  refine ⟨_, rfl, ?_⟩
  have S141 := H140.pk [0, 1, 2, 3]
  refine kq _ _ S141 ?_
  clear kq Kq
  refine hv0 10 S141 7 (pt r102 0) ?_
  refine zhf ?_
  apply ztn
  apply zsl
  refine wv 18 (pt r102 0) ?_
  refine zwN 19 (hc x) (H140.at 2 rfl) ?_
  refine zwd fun Kq kq => ?_
  have l148 := x.len
  refine zdc 20 (Z1u w134 r102 a136 c137 (((([] : List UInt8) ++ Zs ([99, 111, 109, 109, 105, 116])) ++ Zl cl) ++ Zl seq) (H140.fn [5, 6]) (by simp only [List.length_append, List.length_nil]; omega) x) ?_
  rintro _ w143 ⟨a145, c146, rfl, T144⟩
  have H149 : Sat w [Z7 w (fun _ => False), Z3 b2 43 (Z0M cl seq), Z3 b6 40 (hc x), Z3 b10 40 (hc Zx), ZX (.slice (some ⟨b95, 0, none⟩) 6 6) ([99, 111, 109, 109, 105, 116]), Z3 r102 187 (Z0E a145 (((((([] : List UInt8) ++ Zs ([99, 111, 109, 109, 105, 116])) ++ Zl cl) ++ Zl seq) ++ x.l).length) c146), (Z0F a145 ((((([] : List UInt8) ++ Zs ([99, 111, 109, 109, 105, 116])) ++ Zl cl) ++ Zl seq) ++ x.l) c146)] w143 := (Sat.turnL (L' := [Z3 r102 187 (Z0E a145 (((((([] : List UInt8) ++ Zs ([99, 111, 109, 109, 105, 116])) ++ Zl cl) ++ Zl seq) ++ x.l).length) c146), (Z0F a145 ((((([] : List UInt8) ++ Zs ([99, 111, 109, 109, 105, 116])) ++ Zl cl) ++ Zl seq) ++ x.l) c146)]) (R := [Z7 w (fun _ => False), Z3 b2 43 (Z0M cl seq), Z3 b6 40 (hc x), Z3 b10 40 (hc Zx), ZX (.slice (some ⟨b95, 0, none⟩) 6 6) ([99, 111, 109, 109, 105, 116])]) H140 [5, 6] [0, 1, 2, 3, 4] (by decide) (by kernel_rfl) rfl T144).pk [2, 3, 4, 5, 6, 0, 1]
  refine ⟨_, rfl, ?_⟩
  refine kq _ _ ?_
  clear kq Kq
  refine wv 21 (.slice pa p.length pc) ?_
  refine zwd fun Kq kq => ?_
  have l156 := Z10 p
  refine zdc 22 (Z19 w143 r102 a145 c146 ((((([] : List UInt8) ++ Zs ([99, 111, 109, 109, 105, 116])) ++ Zl cl) ++ Zl seq) ++ x.l) (H149.fn [5, 6]) (by simp only [List.length_append, List.length_nil]; omega) pa pc p (ListAt.now H149 0 rfl hp) (Z5Y Z0u (by decide) H149 [5, 6] 0 rfl rfl (by decide) hp) (by omega)) ?_
  rintro _ w151 ⟨a153, c154, rfl, T152⟩
  have H157 := H149.tl [Z3 r102 187 (Z0E a153 ((((((([] : List UInt8) ++ Zs ([99, 111, 109, 109, 105, 116])) ++ Zl cl) ++ Zl seq) ++ x.l) ++ Zs p).length) c154), (Z0F a153 (((((([] : List UInt8) ++ Zs ([99, 111, 109, 109, 105, 116])) ++ Zl cl) ++ Zl seq) ++ x.l) ++ Zs p) c154)] [5, 6] [0, 1, 2, 3, 4] T152 [2, 3, 4, 5, 6, 0, 1]
  refine ⟨_, rfl, ?_⟩
  refine kq _ _ ?_
  clear kq Kq
  refine zwd fun Kq kq => ?_
  refine zdc 23 (Z1i w151 r102 a153 c154 (((((([] : List UInt8) ++ Zs ([99, 111, 109, 109, 105, 116])) ++ Zl cl) ++ Zl seq) ++ x.l) ++ Zs p) (H157.fn [5, 6]) (by simp only [List.length_append, List.length_nil]; omega)) ?_
  rintro _ w159 ⟨u160, rfl, T161⟩
  have H162 : Sat w [Z7 w (fun _ => False), Z3 b2 43 (Z0M cl seq), Z3 b6 40 (hc x), Z3 b10 40 (hc Zx), ZX (.slice (some ⟨b95, 0, none⟩) 6 6) ([99, 111, 109, 109, 105, 116]), Z3 r102 187 (Z0E a153 ((((((([] : List UInt8) ++ Zs ([99, 111, 109, 109, 105, 116])) ++ Zl cl) ++ Zl seq) ++ x.l) ++ Zs p).length) c154), (Z0F a153 (((((([] : List UInt8) ++ Zs ([99, 111, 109, 109, 105, 116])) ++ Zl cl) ++ Zl seq) ++ x.l) ++ Zs p) c154), Zc 5 1 u160 ((((((([] : List UInt8) ++ Zs ([99, 111, 109, 109, 105, 116])) ++ Zl cl) ++ Zl seq) ++ x.l) ++ Zs p).length) ((((((([] : List UInt8) ++ Zs ([99, 111, 109, 109, 105, 116])) ++ Zl cl) ++ Zl seq) ++ x.l) ++ Zs p).flatMap ZH)] w159 := (Sat.turnL (L' := [Z3 r102 187 (Z0E a153 ((((((([] : List UInt8) ++ Zs ([99, 111, 109, 109, 105, 116])) ++ Zl cl) ++ Zl seq) ++ x.l) ++ Zs p).length) c154), (Z0F a153 (((((([] : List UInt8) ++ Zs ([99, 111, 109, 109, 105, 116])) ++ Zl cl) ++ Zl seq) ++ x.l) ++ Zs p) c154), Zc 5 1 u160 ((((((([] : List UInt8) ++ Zs ([99, 111, 109, 109, 105, 116])) ++ Zl cl) ++ Zl seq) ++ x.l) ++ Zs p).length) ((((((([] : List UInt8) ++ Zs ([99, 111, 109, 109, 105, 116])) ++ Zl cl) ++ Zl seq) ++ x.l) ++ Zs p).flatMap ZH)]) (R := [Z7 w (fun _ => False), Z3 b2 43 (Z0M cl seq), Z3 b6 40 (hc x), Z3 b10 40 (hc Zx), ZX (.slice (some ⟨b95, 0, none⟩) 6 6) ([99, 111, 109, 109, 105, 116])]) H157 [5, 6] [0, 1, 2, 3, 4] (by decide) (by kernel_rfl) rfl T161).pk [3, 4, 5, 6, 7, 0, 1, 2]
  obtain ⟨a163, c164, rfl⟩ := Ze (H162.at 7 rfl)
  refine ⟨_, rfl, ?_⟩
  refine kq _ _ ?_
  clear kq Kq
  refine zwd fun Kq kq => ?_
  refine zdq 24 (Z64 w159 a163 c164 (((((([] : List UInt8) ++ Zs ([99, 111, 109, 109, 105, 116])) ++ Zl cl) ++ Zl seq) ++ x.l) ++ Zs p) (ListAt.row (enc := ZH) (sz := 1) Z0u (by decide) (H162.at 7 rfl)) (Z7y cl seq x p hlp)) H162 ?_
  intro w166 H167
  refine kq _ _ ?_
  clear kq Kq
  refine zwd fun Kq kq => ?_
  refine Z21 (hc (Z8 (((((([] : List UInt8) ++ Zs ([99, 111, 109, 109, 105, 116])) ++ Zl cl) ++ Zl seq) ++ x.l) ++ Zs p))) H167 3 ?_
  intro w170 H171
  refine kq _ _ ?_
  clear kq Kq
  apply znt
  apply Zz
  refine Z1x rfl (Z02 (vs := (hc (Z8 (((((([] : List UInt8) ++ Zs ([99, 111, 109, 109, 105, 116])) ++ Zl cl) ++ Zl seq) ++ x.l) ++ Zs p)))) rfl (by kernel_rfl) (by kernel_rfl) (by exact Nat.le_of_ble_eq_true (by kernel_rfl)) (H171.at 3 rfl) (by kernel_rfl)) ?_
  exact ⟨by rw [Z62], H171.upd 0 rfl [] (fun _ h => h.elim)⟩
 refine Z1n (e := 5) (s := [99, 111, 109, 109, 105, 116]) rfl H98 4 rfl (by kernel_rfl) (by kernel_rfl) rfl ?_
 intro w173 (H174 : Sat w [Z7 w (fun _ => False), Z3 b2 43 (Z0M cl seq), Z3 b6 40 (hc x), Z3 b10 40 (hc Zx), ZX (.slice (some ⟨b95, 0, none⟩) 6 6) ([99, 111, 109, 109, 105, 116])] w173)
 have S175 := H174.pk [0, 1, 2, 3]
 refine kq _ _ S175 ?_
 clear kq Kq
 refine Z0H 0 fun Kq kq => ?_
 refine zdc 8 (Z2b w173) ?_
 rintro _ w177 ⟨r178, a179, c180, rfl, k181, p182, q183⟩
 have H184 := H174.addU p182 k181 q183
 have H185 : Sat w [Z7 w (fun _ => False), Z3 b2 43 (Z0M cl seq), Z3 b6 40 (hc x), Z3 b10 40 (hc Zx), ZX (.slice (some ⟨b95, 0, none⟩) 6 6) ([99, 111, 109, 109, 105, 116]), Z3 r178 187 (Z0E a179 (([] : List UInt8).length) c180), (Z0F a179 (([] : List UInt8)) c180)] w177 := H184.open 5 rfl
 refine ⟨_, rfl, ?_⟩
 have S186 := H185.pk [0, 1, 2, 3]
 refine kq _ _ S186 ?_
 clear kq Kq
 refine Z0H 3 fun Kq kq => ?_
 have l193 := (show (Zs [99, 111, 109, 109, 105, 116]).length ≤ 16 from Z10 _)
 refine zdc 11 (Z19 w177 r178 a179 c180 ([] : List UInt8) (H185.fn [5, 6]) (by simp) (some ⟨b95, 0, none⟩) 6 ([99, 111, 109, 109, 105, 116]) (ListAt.ofTxt (H185.at 4 rfl)) (Z2W (fun b hb => H185.offP [5, 6] 4 rfl rfl (by decide) hb)) (by first | omega | simp)) ?_
 rintro _ w188 ⟨a190, c191, rfl, T189⟩
 have H194 := H185.tl [Z3 r178 187 (Z0E a190 ((([] : List UInt8) ++ Zs ([99, 111, 109, 109, 105, 116])).length) c191), (Z0F a190 (([] : List UInt8) ++ Zs ([99, 111, 109, 109, 105, 116])) c191)] [5, 6] [0, 1, 2, 3, 4] T189 [2, 3, 4, 5, 6, 0, 1]
 refine ⟨_, rfl, ?_⟩
 have S195 := H194.pk [0, 1, 2, 3]
 refine kq _ _ S195 ?_
 clear kq Kq
 refine Z0H 6 fun Kq kq => ?_
 have l202 := Z0g cl
 refine zdc 14 (Z0z w188 r178 a190 c191 (([] : List UInt8) ++ Zs ([99, 111, 109, 109, 105, 116])) (H194.fn [5, 6]) (by simp only [List.length_append, List.length_nil]; omega) cl (by omega)) ?_
 rintro _ w197 ⟨a199, c200, rfl, T198⟩
 have H203 : Sat w [Z7 w (fun _ => False), Z3 b2 43 (Z0M cl seq), Z3 b6 40 (hc x), Z3 b10 40 (hc Zx), ZX (.slice (some ⟨b95, 0, none⟩) 6 6) ([99, 111, 109, 109, 105, 116]), Z3 r178 187 (Z0E a199 (((([] : List UInt8) ++ Zs ([99, 111, 109, 109, 105, 116])) ++ Zl cl).length) c200), (Z0F a199 ((([] : List UInt8) ++ Zs ([99, 111, 109, 109, 105, 116])) ++ Zl cl) c200)] w197 := (Sat.turnL (L' := [Z3 r178 187 (Z0E a199 (((([] : List UInt8) ++ Zs ([99, 111, 109, 109, 105, 116])) ++ Zl cl).length) c200), (Z0F a199 ((([] : List UInt8) ++ Zs ([99, 111, 109, 109, 105, 116])) ++ Zl cl) c200)]) (R := [Z7 w (fun _ => False), Z3 b2 43 (Z0M cl seq), Z3 b6 40 (hc x), Z3 b10 40 (hc Zx), ZX (.slice (some ⟨b95, 0, none⟩) 6 6) ([99, 111, 109, 109, 105, 116])]) H194 [5, 6] [0, 1, 2, 3, 4] (by decide) (by kernel_rfl) rfl T198).pk [2, 3, 4, 5, 6, 0, 1]
 refine ⟨_, rfl, ?_⟩
 have S204 := H203.pk [0, 1, 2, 3]
 refine kq _ _ S204 ?_
 clear kq Kq
 refine Z0H 9 fun Kq kq => ?_
 have l211 := Z0g seq
 refine zdc 17 (Z0z w197 r178 a199 c200 ((([] : List UInt8) ++ Zs ([99, 111, 109, 109, 105, 116])) ++ Zl cl) (H203.fn [5, 6]) (by simp only [List.length_append, List.length_nil]; omega) seq (by omega)) ?_
 rintro _ w206 ⟨a208, c209, rfl, T207⟩
 have H212 := H203.tl [Z3 r178 187 (Z0E a208 ((((([] : List UInt8) ++ Zs ([99, 111, 109, 109, 105, 116])) ++ Zl cl) ++ Zl seq).length) c209), (Z0F a208 (((([] : List UInt8) ++ Zs ([99, 111, 109, 109, 105, 116])) ++ Zl cl) ++ Zl seq) c209)] [5, 6] [0, 1, 2, 3, 4] T207 [2, 3, 4, 5, 6, 0, 1]
 refine ⟨_, rfl, ?_⟩
 have S213 := H212.pk [0, 1, 2, 3]
 refine kq _ _ S213 ?_
 clear kq Kq
 refine hv0 10 S213 7 (pt r178 0) ?_
 refine zhf ?_
 apply ztn
 apply zsl
 refine wv 18 (pt r178 0) ?_
 refine zwN 19 (hc x) (H212.at 2 rfl) ?_
 refine zwd fun Kq kq => ?_
 have l220 := x.len
 refine zdc 20 (Z1u w206 r178 a208 c209 (((([] : List UInt8) ++ Zs ([99, 111, 109, 109, 105, 116])) ++ Zl cl) ++ Zl seq) (H212.fn [5, 6]) (by simp only [List.length_append, List.length_nil]; omega) x) ?_
 rintro _ w215 ⟨a217, c218, rfl, T216⟩
 have H221 : Sat w [Z7 w (fun _ => False), Z3 b2 43 (Z0M cl seq), Z3 b6 40 (hc x), Z3 b10 40 (hc Zx), ZX (.slice (some ⟨b95, 0, none⟩) 6 6) ([99, 111, 109, 109, 105, 116]), Z3 r178 187 (Z0E a217 (((((([] : List UInt8) ++ Zs ([99, 111, 109, 109, 105, 116])) ++ Zl cl) ++ Zl seq) ++ x.l).length) c218), (Z0F a217 ((((([] : List UInt8) ++ Zs ([99, 111, 109, 109, 105, 116])) ++ Zl cl) ++ Zl seq) ++ x.l) c218)] w215 := (Sat.turnL (L' := [Z3 r178 187 (Z0E a217 (((((([] : List UInt8) ++ Zs ([99, 111, 109, 109, 105, 116])) ++ Zl cl) ++ Zl seq) ++ x.l).length) c218), (Z0F a217 ((((([] : List UInt8) ++ Zs ([99, 111, 109, 109, 105, 116])) ++ Zl cl) ++ Zl seq) ++ x.l) c218)]) (R := [Z7 w (fun _ => False), Z3 b2 43 (Z0M cl seq), Z3 b6 40 (hc x), Z3 b10 40 (hc Zx), ZX (.slice (some ⟨b95, 0, none⟩) 6 6) ([99, 111, 109, 109, 105, 116])]) H212 [5, 6] [0, 1, 2, 3, 4] (by decide) (by kernel_rfl) rfl T216).pk [2, 3, 4, 5, 6, 0, 1]
 refine ⟨_, rfl, ?_⟩
 refine kq _ _ ?_
 clear kq Kq
 refine wv 21 (.slice pa p.length pc) ?_
 refine zwd fun Kq kq => ?_
 have l228 := Z10 p
 refine zdc 22 (Z19 w215 r178 a217 c218 ((((([] : List UInt8) ++ Zs ([99, 111, 109, 109, 105, 116])) ++ Zl cl) ++ Zl seq) ++ x.l) (H221.fn [5, 6]) (by simp only [List.length_append, List.length_nil]; omega) pa pc p (ListAt.now H221 0 rfl hp) (Z5Y Z0u (by decide) H221 [5, 6] 0 rfl rfl (by decide) hp) (by omega)) ?_
 rintro _ w223 ⟨a225, c226, rfl, T224⟩
 have H229 := H221.tl [Z3 r178 187 (Z0E a225 ((((((([] : List UInt8) ++ Zs ([99, 111, 109, 109, 105, 116])) ++ Zl cl) ++ Zl seq) ++ x.l) ++ Zs p).length) c226), (Z0F a225 (((((([] : List UInt8) ++ Zs ([99, 111, 109, 109, 105, 116])) ++ Zl cl) ++ Zl seq) ++ x.l) ++ Zs p) c226)] [5, 6] [0, 1, 2, 3, 4] T224 [2, 3, 4, 5, 6, 0, 1]
 refine ⟨_, rfl, ?_⟩
 refine kq _ _ ?_
 clear kq Kq
 refine zwd fun Kq kq => ?_
 refine zdc 23 (Z1i w223 r178 a225 c226 (((((([] : List UInt8) ++ Zs ([99, 111, 109, 109, 105, 116])) ++ Zl cl) ++ Zl seq) ++ x.l) ++ Zs p) (H229.fn [5, 6]) (by simp only [List.length_append, List.length_nil]; omega)) ?_
 rintro _ w231 ⟨u232, rfl, T233⟩
 have H234 : Sat w [Z7 w (fun _ => False), Z3 b2 43 (Z0M cl seq), Z3 b6 40 (hc x), Z3 b10 40 (hc Zx), ZX (.slice (some ⟨b95, 0, none⟩) 6 6) ([99, 111, 109, 109, 105, 116]), Z3 r178 187 (Z0E a225 ((((((([] : List UInt8) ++ Zs ([99, 111, 109, 109, 105, 116])) ++ Zl cl) ++ Zl seq) ++ x.l) ++ Zs p).length) c226), (Z0F a225 (((((([] : List UInt8) ++ Zs ([99, 111, 109, 109, 105, 116])) ++ Zl cl) ++ Zl seq) ++ x.l) ++ Zs p) c226), Zc 5 1 u232 ((((((([] : List UInt8) ++ Zs ([99, 111, 109, 109, 105, 116])) ++ Zl cl) ++ Zl seq) ++ x.l) ++ Zs p).length) ((((((([] : List UInt8) ++ Zs ([99, 111, 109, 109, 105, 116])) ++ Zl cl) ++ Zl seq) ++ x.l) ++ Zs p).flatMap ZH)] w231 := (Sat.turnL (L' := [Z3 r178 187 (Z0E a225 ((((((([] : List UInt8) ++ Zs ([99, 111, 109, 109, 105, 116])) ++ Zl cl) ++ Zl seq) ++ x.l) ++ Zs p).length) c226), (Z0F a225 (((((([] : List UInt8) ++ Zs ([99, 111, 109, 109, 105, 116])) ++ Zl cl) ++ Zl seq) ++ x.l) ++ Zs p) c226), Zc 5 1 u232 ((((((([] : List UInt8) ++ Zs ([99, 111, 109, 109, 105, 116])) ++ Zl cl) ++ Zl seq) ++ x.l) ++ Zs p).length) ((((((([] : List UInt8) ++ Zs ([99, 111, 109, 109, 105, 116])) ++ Zl cl) ++ Zl seq) ++ x.l) ++ Zs p).flatMap ZH)]) (R := [Z7 w (fun _ => False), Z3 b2 43 (Z0M cl seq), Z3 b6 40 (hc x), Z3 b10 40 (hc Zx), ZX (.slice (some ⟨b95, 0, none⟩) 6 6) ([99, 111, 109, 109, 105, 116])]) H229 [5, 6] [0, 1, 2, 3, 4] (by decide) (by kernel_rfl) rfl T233).pk [3, 4, 5, 6, 7, 0, 1, 2]
 obtain ⟨a235, c236, rfl⟩ := Ze (H234.at 7 rfl)
 refine ⟨_, rfl, ?_⟩
 refine kq _ _ ?_
 clear kq Kq
 refine zwd fun Kq kq => ?_
 refine zdq 24 (Z64 w231 a235 c236 (((((([] : List UInt8) ++ Zs ([99, 111, 109, 109, 105, 116])) ++ Zl cl) ++ Zl seq) ++ x.l) ++ Zs p) (ListAt.row (enc := ZH) (sz := 1) Z0u (by decide) (H234.at 7 rfl)) (Z7y cl seq x p hlp)) H234 ?_
 intro w238 H239
 refine kq _ _ ?_
 clear kq Kq
 refine zwd fun Kq kq => ?_
 refine Z21 (hc (Z8 (((((([] : List UInt8) ++ Zs ([99, 111, 109, 109, 105, 116])) ++ Zl cl) ++ Zl seq) ++ x.l) ++ Zs p))) H239 3 ?_
 intro w242 H243
 refine kq _ _ ?_
 clear kq Kq
 apply znt
 apply Zz
 refine Z1x rfl (Z02 (vs := (hc (Z8 (((((([] : List UInt8) ++ Zs ([99, 111, 109, 109, 105, 116])) ++ Zl cl) ++ Zl seq) ++ x.l) ++ Zs p)))) rfl (by kernel_rfl) (by kernel_rfl) (by exact Nat.le_of_ble_eq_true (by kernel_rfl)) (H243.at 3 rfl) (by kernel_rfl)) ?_
 exact ⟨by rw [Z62], H243.upd 0 rfl [] (fun _ h => h.elim)⟩
end Go.Proofs.YtgigjkjdmalmaaaGreat
