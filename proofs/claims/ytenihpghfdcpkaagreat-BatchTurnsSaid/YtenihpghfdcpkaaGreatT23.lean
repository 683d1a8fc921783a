/- WHAT IS PROVED: contracts and plain laws of OfP. Conditions: stated with each. -/
import Derived.Test.YtenihpghfdcpkaaGreatT05
import Derived.Test.YtenihpghfdcpkaaGreatT12
import Derived.Test.YtenihpghfdcpkaaGreatT15
import Derived.Test.YtenihpghfdcpkaaGreatT22
set_option maxHeartbeats 4000000
set_option maxRecDepth 100000
namespace Go.Proofs.YtenihpghfdcpkaaGreat
open Go.RowKit
abbrev kOfP_0 (p0 : Int) (p1 : Int) : List Value := ([(.int .i64 p0), (.int .i64 p1)] : List Value)
abbrev kOfP_1 (p0 : Option Addr) (p1 : Nat) (p2 : Nat) : List Value := ([(.slice p0 p1 p2)] : List Value)
abbrev kOfP_2 (p0 : Option Addr) (p1 : List UInt8) (p2 : Nat) : Ck := rowC 5 1 (.slice p0 p1.length p2) p1.length (p1.flatMap encB)
abbrev kOfP_3 : List Value := ([(.int .u8 (99)), (.int .u8 (111)), (.int .u8 (109)), (.int .u8 (109)), (.int .u8 (105)), (.int .u8 (116))] : List Value)
theorem slice_addr {va : Option Addr} {n c n' c' : Nat} {ad : Addr} (h : Value.slice va n c = .slice (some ad) n' c') : va = some ad := by
 simp only [Value.slice.injEq] at h; exact h.1
theorem list_off {α : Type} {enc : α → List Value} {sz : Nat} (hs : ∀ x, (enc x).length = sz) (h0 : 0 < sz) {W w : World} {G : List Ck} (H : Sat W G w) (is : List Nat) (j : Nat) {B : List Ck} (hB : (is.filterMap fun i => G[i]?) = B) (hj : G[j]? = some (restC W fun _ => False)) (hne : is.all (fun i => !Nat.beq i j) = true) {va : Option Addr} {n vc : Nat} {ls : List α} (hv : ListAt enc sz W (.slice va n vc) ls) : 0 < ls.length → ∀ a, va = some a → ¬ (sepC B).fp a.block := by
 intro h1 a ha hfp
 obtain ⟨vb, vo, vc', hva, hvs⟩ := hv.cells hs h0 h1
 have h2 := slice_addr hva
 rw [h2] at ha
 obtain rfl := (Option.some.inj ha)
 have hl : 0 < (ls.flatMap enc).length := by rw [flat_len enc sz hs]; exact Nat.mul_pos h1 h0
 have hc := hvs 0 _ (List.getElem?_eq_getElem hl)
 rw [Addr.add_lit] at hc
 have hlt := World.block_lt_of_cell? W _ hc
 subst hB
 obtain ⟨A, hA, hAf⟩ := hfp
 obtain ⟨i, hi, he⟩ := List.mem_filterMap.1 hA
 have hij : Nat.beq i j = false := by simpa using List.all_eq_true.1 hne i hi
 exact H.apart i j he hj hij _ hAf ⟨hlt, fun h => h⟩
theorem pOf_any (w : World) (cl seq : Int) (x : Hash) (pa : Option Addr) (pc : Nat) (p : List UInt8) (hp : ListAt encB 1 w (.slice pa p.length pc) p) (hcl : cl ≤ 9223372036854775807) (hsq : seq ≤ 9223372036854775807) (hlp : p.length ≤ 1000) :
  Calls Tryz.prog 122 #[(.agg ⟨([(.int .i64 (cl)), (.int .i64 (seq))] : List Value)⟩), (.agg ⟨(hc x)⟩), (.slice pa p.length pc)] w fun e w' => e = .returned (.agg ⟨hc (shaR (ofT cl seq x p))⟩) ∧ Upd [] w w' := by
 have H := Sat.start0 w
 refine calls_fr Tryz.func122 rfl 25 rfl (Nat.le_of_ble_eq_true rfl) ?_
 apply zsl
 refine zwd fun Kq kq => ?_
 refine zdb (kOfP_0 cl seq) H ?_
 intro b2 w3 H4
 refine kq _ _ ?_
 clear kq Kq
 refine zwd fun Kq kq => ?_
 refine zdb (hc x) H4 ?_
 intro b6 w7 (H8 : Sat w [restC w (fun _ => False), cellC b2 59 (kOfP_0 cl seq), cellC b6 61 (hc x)] w7)
 refine kq _ _ ?_
 clear kq Kq
 refine zwd fun Kq kq => ?_
 refine zda (hc hash0) H8 ?_
 intro b10 w11 H12
 refine kq _ _ ?_
 clear kq Kq
 apply znt
 apply w_seq
 refine h_start H12 [restC w (fun _ => False), cellC b2 59 (kOfP_0 cl seq), cellC b6 61 (hc x), cellC b10 61 (hc hash0)] 11 rfl (by kernel_rfl) (fun Hx => (Hx.pk [0, 1, 2, 3])) ?_
 intro w13 H14 S15
 refine hv0 4 S15 12 (pt b2 0) ?_
 refine hv0 5 S15 13 (.int .i64 (cl)) ?_ (he := fun _ H' => (e_load1 rfl (by kernel_rfl) (H'.cell 1 rfl rfl)))
 refine hv0 7 S15 15 (pt b2 1) ?_
 refine hv0 8 S15 16 (.int .i64 (seq)) ?_ (he := fun _ H' => (e_load1 rfl (by kernel_rfl) (H'.cell 1 rfl rfl)))
 refine h_do2 0 1 rfl rfl (by kernel_rfl) (wants0 rfl) (wants0 rfl) (fun Kq kq => ?_) (fun Kq kq => ?_)
 ·refine zdc 8 (wNew_any w13) ?_
  rintro _ w17 ⟨r18, a19, c20, rfl, k21, p22, q23⟩
  have H24 : Sat w [restC w (fun _ => False), cellC b2 59 (kOfP_0 cl seq), cellC b6 61 (hc x), cellC b10 61 (hc hash0), sepC (wrL r18 a19 c20 ([] : List UInt8))] w17 := H14.addU p22 k21 q23
  have H25 := H24.open 4 rfl
  refine ⟨_, rfl, ?_⟩
  have S26 := H25.pk [0, 1, 2, 3]
  refine kq _ _ S26 ?_
  clear kq Kq
  refine zhd0 1 fun Kq kq => ?_
  refine zdbs 5 1 1 (.int .u8 (0)) [(0, (.int .u8 (99))), (1, (.int .u8 (111))), (2, (.int .u8 (109))), (3, (.int .u8 (109))), (4, (.int .u8 (105))), (5, (.int .u8 (116)))] (kOfP_3) H25 ?_
  intro b28 w29 (H30 : Sat w [restC w (fun _ => False), cellC b2 59 (kOfP_0 cl seq), cellC b6 61 (hc x), cellC b10 61 (hc hash0), cellC r18 266 (kOfP_1 a19 (([] : List UInt8).length) c20), (kOfP_2 a19 (([] : List UInt8)) c20), rowC 5 1 (.slice (some ⟨b28, 0, none⟩) 6 6) 6 (kOfP_3)] w29)
  have H31 : Sat w [restC w (fun _ => False), cellC b2 59 (kOfP_0 cl seq), cellC b6 61 (hc x), cellC b10 61 (hc hash0), cellC r18 266 (kOfP_1 a19 (([] : List UInt8).length) c20), (kOfP_2 a19 (([] : List UInt8)) c20), rowC 5 1 (.slice (some ⟨b28, 0, none⟩) 6 6) 6 ([99, 111, 109, 109, 105, 116].flatMap encB)] w29 := H30.cast (by rw [show ((kOfP_3) : List Value) = [99, 111, 109, 109, 105, 116].flatMap encB from rfl])
  have S32 := H31.pk [0, 1, 2, 3]
  refine kq _ _ S32 ?_
  clear kq Kq
  refine zhd0 2 fun Kq kq => ?_
  refine d_convMark (e := 5) (s := [99, 111, 109, 109, 105, 116]) rfl H31 6 rfl (by kernel_rfl) (by kernel_rfl) rfl ?_
  intro w34 H35
  have S36 := H35.pk [0, 1, 2, 3]
  refine kq _ _ S36 ?_
  clear kq Kq
  refine zhd0 3 fun Kq kq => ?_
  have l43 := (show (rowB [99, 111, 109, 109, 105, 116]).length ≤ 16 from rowB_len _)
  refine zdc 11 (wRowL_any w34 r18 a19 c20 ([] : List UInt8) (H35.fn [4, 5]) (by simp) (some ⟨b28, 0, none⟩) 6 ([99, 111, 109, 109, 105, 116]) (ListAt.ofTxt (H35.at 6 rfl)) (off_txt (fun b hb => H35.offP [4, 5] 6 rfl rfl (by decide) hb)) (by first | omega | simp)) ?_
  rintro _ w38 ⟨a40, c41, rfl, T39⟩
  have H44 : Sat w [restC w (fun _ => False), cellC b2 59 (kOfP_0 cl seq), cellC b6 61 (hc x), cellC b10 61 (hc hash0), cellC r18 266 (kOfP_1 a40 ((([] : List UInt8) ++ rowB ([99, 111, 109, 109, 105, 116])).length) c41), (kOfP_2 a40 (([] : List UInt8) ++ rowB ([99, 111, 109, 109, 105, 116])) c41), txtC (.slice (some ⟨b28, 0, none⟩) 6 6) ([99, 111, 109, 109, 105, 116])] w38 := (Sat.turnL (L' := [cellC r18 266 (kOfP_1 a40 ((([] : List UInt8) ++ rowB ([99, 111, 109, 109, 105, 116])).length) c41), (kOfP_2 a40 (([] : List UInt8) ++ rowB ([99, 111, 109, 109, 105, 116])) c41)]) (R := [restC w (fun _ => False), cellC b2 59 (kOfP_0 cl seq), cellC b6 61 (hc x), cellC b10 61 (hc hash0), txtC (.slice (some ⟨b28, 0, none⟩) 6 6) ([99, 111, 109, 109, 105, 116])]) H35 [4, 5] [0, 1, 2, 3, 6] (by decide) (by kernel_rfl) rfl T39).pk [2, 3, 4, 5, 0, 1, 6]
  refine ⟨_, rfl, ?_⟩
  have S45 := H44.pk [0, 1, 2, 3]
  refine kq _ _ S45 ?_
  clear kq Kq
  refine zhd0 6 fun Kq kq => ?_
  have l52 := intB_len cl
  refine zdc 14 (wInt_any w38 r18 a40 c41 (([] : List UInt8) ++ rowB ([99, 111, 109, 109, 105, 116])) (H44.fn [4, 5]) (by simp only [List.length_append, List.length_nil]; omega) cl (by omega)) ?_
  rintro _ w47 ⟨a49, c50, rfl, T48⟩
  have H53 := H44.tl [cellC r18 266 (kOfP_1 a49 (((([] : List UInt8) ++ rowB ([99, 111, 109, 109, 105, 116])) ++ intB cl).length) c50), (kOfP_2 a49 ((([] : List UInt8) ++ rowB ([99, 111, 109, 109, 105, 116])) ++ intB cl) c50)] [4, 5] [0, 1, 2, 3, 6] T48 [2, 3, 4, 5, 0, 1, 6]
  refine ⟨_, rfl, ?_⟩
  have S54 := H53.pk [0, 1, 2, 3]
  refine kq _ _ S54 ?_
  clear kq Kq
  refine zhd0 9 fun Kq kq => ?_
  have l61 := intB_len seq
  refine zdc 17 (wInt_any w47 r18 a49 c50 ((([] : List UInt8) ++ rowB ([99, 111, 109, 109, 105, 116])) ++ intB cl) (H53.fn [4, 5]) (by simp only [List.length_append, List.length_nil]; omega) seq (by omega)) ?_
  rintro _ w56 ⟨a58, c59, rfl, T57⟩
  have H62 : Sat w [restC w (fun _ => False), cellC b2 59 (kOfP_0 cl seq), cellC b6 61 (hc x), cellC b10 61 (hc hash0), cellC r18 266 (kOfP_1 a58 ((((([] : List UInt8) ++ rowB ([99, 111, 109, 109, 105, 116])) ++ intB cl) ++ intB seq).length) c59), (kOfP_2 a58 (((([] : List UInt8) ++ rowB ([99, 111, 109, 109, 105, 116])) ++ intB cl) ++ intB seq) c59), txtC (.slice (some ⟨b28, 0, none⟩) 6 6) ([99, 111, 109, 109, 105, 116])] w56 := (Sat.turnL (L' := [cellC r18 266 (kOfP_1 a58 ((((([] : List UInt8) ++ rowB ([99, 111, 109, 109, 105, 116])) ++ intB cl) ++ intB seq).length) c59), (kOfP_2 a58 (((([] : List UInt8) ++ rowB ([99, 111, 109, 109, 105, 116])) ++ intB cl) ++ intB seq) c59)]) (R := [restC w (fun _ => False), cellC b2 59 (kOfP_0 cl seq), cellC b6 61 (hc x), cellC b10 61 (hc hash0), txtC (.slice (some ⟨b28, 0, none⟩) 6 6) ([99, 111, 109, 109, 105, 116])]) H53 [4, 5] [0, 1, 2, 3, 6] (by decide) (by kernel_rfl) rfl T57).pk [2, 3, 4, 5, 0, 1, 6]
  refine ⟨_, rfl, ?_⟩
  have S63 := H62.pk [0, 1, 2, 3]
  refine kq _ _ S63 ?_
  clear kq Kq
  refine hv0 10 S63 7 (pt r18 0) ?_
  refine zhf ?_
  apply ztn
  apply zsl
  refine wv 18 (pt r18 0) ?_
  refine zwN 19 (hc x) (H62.at 2 rfl) ?_
  refine zwd fun Kq kq => ?_
  have l70 := x.len
  refine zdc 20 (wHash_any w56 r18 a58 c59 (((([] : List UInt8) ++ rowB ([99, 111, 109, 109, 105, 116])) ++ intB cl) ++ intB seq) (H62.fn [4, 5]) (by simp only [List.length_append, List.length_nil]; omega) x) ?_
  rintro _ w65 ⟨a67, c68, rfl, T66⟩
  have H71 := H62.tl [cellC r18 266 (kOfP_1 a67 (((((([] : List UInt8) ++ rowB ([99, 111, 109, 109, 105, 116])) ++ intB cl) ++ intB seq) ++ x.l).length) c68), (kOfP_2 a67 ((((([] : List UInt8) ++ rowB ([99, 111, 109, 109, 105, 116])) ++ intB cl) ++ intB seq) ++ x.l) c68)] [4, 5] [0, 1, 2, 3, 6] T66 [2, 3, 4, 5, 0, 1, 6]
  refine ⟨_, rfl, ?_⟩
  refine kq _ _ ?_
  clear kq Kq
  refine wv 21 (.slice pa p.length pc) ?_
  refine zwd fun Kq kq => ?_
  have l78 := rowB_len p
  refine zdc 22 (wRowL_any w65 r18 a67 c68 ((((([] : List UInt8) ++ rowB ([99, 111, 109, 109, 105, 116])) ++ intB cl) ++ intB seq) ++ x.l) (H71.fn [4, 5]) (by simp only [List.length_append, List.length_nil]; omega) pa pc p (ListAt.now H71 0 rfl hp) (list_off encB_len (by decide) H71 [4, 5] 0 rfl rfl (by decide) hp) (by omega)) ?_
  rintro _ w73 ⟨a75, c76, rfl, T74⟩
  have H79 : Sat w [restC w (fun _ => False), cellC b2 59 (kOfP_0 cl seq), cellC b6 61 (hc x), cellC b10 61 (hc hash0), cellC r18 266 (kOfP_1 a75 ((((((([] : List UInt8) ++ rowB ([99, 111, 109, 109, 105, 116])) ++ intB cl) ++ intB seq) ++ x.l) ++ rowB p).length) c76), (kOfP_2 a75 (((((([] : List UInt8) ++ rowB ([99, 111, 109, 109, 105, 116])) ++ intB cl) ++ intB seq) ++ x.l) ++ rowB p) c76), txtC (.slice (some ⟨b28, 0, none⟩) 6 6) ([99, 111, 109, 109, 105, 116])] w73 := (Sat.turnL (L' := [cellC r18 266 (kOfP_1 a75 ((((((([] : List UInt8) ++ rowB ([99, 111, 109, 109, 105, 116])) ++ intB cl) ++ intB seq) ++ x.l) ++ rowB p).length) c76), (kOfP_2 a75 (((((([] : List UInt8) ++ rowB ([99, 111, 109, 109, 105, 116])) ++ intB cl) ++ intB seq) ++ x.l) ++ rowB p) c76)]) (R := [restC w (fun _ => False), cellC b2 59 (kOfP_0 cl seq), cellC b6 61 (hc x), cellC b10 61 (hc hash0), txtC (.slice (some ⟨b28, 0, none⟩) 6 6) ([99, 111, 109, 109, 105, 116])]) H71 [4, 5] [0, 1, 2, 3, 6] (by decide) (by kernel_rfl) rfl T74).pk [2, 3, 4, 5, 0, 1, 6]
  refine ⟨_, rfl, ?_⟩
  refine kq _ _ ?_
  clear kq Kq
  refine zwd fun Kq kq => ?_
  refine zdc 23 (wBytes_any w73 r18 a75 c76 (((((([] : List UInt8) ++ rowB ([99, 111, 109, 109, 105, 116])) ++ intB cl) ++ intB seq) ++ x.l) ++ rowB p) (H79.fn [4, 5]) (by simp only [List.length_append, List.length_nil]; omega)) ?_
  rintro _ w81 ⟨u82, rfl, T83⟩
  have H84 := H79.tl [cellC r18 266 (kOfP_1 a75 ((((((([] : List UInt8) ++ rowB ([99, 111, 109, 109, 105, 116])) ++ intB cl) ++ intB seq) ++ x.l) ++ rowB p).length) c76), (kOfP_2 a75 (((((([] : List UInt8) ++ rowB ([99, 111, 109, 109, 105, 116])) ++ intB cl) ++ intB seq) ++ x.l) ++ rowB p) c76), rowC 5 1 u82 ((((((([] : List UInt8) ++ rowB ([99, 111, 109, 109, 105, 116])) ++ intB cl) ++ intB seq) ++ x.l) ++ rowB p).length) ((((((([] : List UInt8) ++ rowB ([99, 111, 109, 109, 105, 116])) ++ intB cl) ++ intB seq) ++ x.l) ++ rowB p).flatMap encB)] [4, 5] [0, 1, 2, 3, 6] T83 [3, 4, 5, 6, 0, 1, 7, 2]
  obtain ⟨a85, c86, rfl⟩ := ownsRow_shape (H84.at 7 rfl)
  refine ⟨_, rfl, ?_⟩
  refine kq _ _ ?_
  clear kq Kq
  refine zwd fun Kq kq => ?_
  refine zdq 24 (pSum_any w81 a85 c86 (((((([] : List UInt8) ++ rowB ([99, 111, 109, 109, 105, 116])) ++ intB cl) ++ intB seq) ++ x.l) ++ rowB p) (ListAt.row (enc := encB) (sz := 1) encB_len (by decide) (H84.at 7 rfl)) (ofT_lim cl seq x p hlp)) H84 ?_
  intro w88 H89
  refine kq _ _ ?_
  clear kq Kq
  refine zwd fun Kq kq => ?_
  refine zds1 (hc (shaR (((((([] : List UInt8) ++ rowB ([99, 111, 109, 109, 105, 116])) ++ intB cl) ++ intB seq) ++ x.l) ++ rowB p))) H89 3 ?_
  intro w92 (H93 : Sat w [restC w (fun _ => False), cellC b2 59 (kOfP_0 cl seq), cellC b6 61 (hc x), cellC b10 61 (hc (shaR (((((([] : List UInt8) ++ rowB ([99, 111, 109, 109, 105, 116])) ++ intB cl) ++ intB seq) ++ x.l) ++ rowB p))), cellC r18 266 (kOfP_1 a75 ((((((([] : List UInt8) ++ rowB ([99, 111, 109, 109, 105, 116])) ++ intB cl) ++ intB seq) ++ x.l) ++ rowB p).length) c76), (kOfP_2 a75 (((((([] : List UInt8) ++ rowB ([99, 111, 109, 109, 105, 116])) ++ intB cl) ++ intB seq) ++ x.l) ++ rowB p) c76), txtC (.slice (some ⟨b28, 0, none⟩) 6 6) ([99, 111, 109, 109, 105, 116]), (kOfP_2 a85 (((((([] : List UInt8) ++ rowB ([99, 111, 109, 109, 105, 116])) ++ intB cl) ++ intB seq) ++ x.l) ++ rowB p) c86)] w92)
  refine kq _ _ ?_
  clear kq Kq
  apply znt
  apply w_ret
  refine end1 rfl (res_cellN (vs := (hc (shaR (((((([] : List UInt8) ++ rowB ([99, 111, 109, 109, 105, 116])) ++ intB cl) ++ intB seq) ++ x.l) ++ rowB p)))) rfl (by kernel_rfl) (by kernel_rfl) (by exact Nat.le_of_ble_eq_true (by kernel_rfl)) (H93.at 3 rfl) (by kernel_rfl)) ?_
  exact ⟨by rw [ofT_app], H93.upd 0 rfl [] (fun _ h => h.elim)⟩
 refine zdbs 5 1 1 (.int .u8 (0)) [(0, (.int .u8 (99))), (1, (.int .u8 (111))), (2, (.int .u8 (109))), (3, (.int .u8 (109))), (4, (.int .u8 (105))), (5, (.int .u8 (116)))] (kOfP_3) H14 ?_
 intro b95 w96 (H97 : Sat w [restC w (fun _ => False), cellC b2 59 (kOfP_0 cl seq), cellC b6 61 (hc x), cellC b10 61 (hc hash0), rowC 5 1 (.slice (some ⟨b95, 0, none⟩) 6 6) 6 (kOfP_3)] w96)
 have H98 : Sat w [restC w (fun _ => False), cellC b2 59 (kOfP_0 cl seq), cellC b6 61 (hc x), cellC b10 61 (hc hash0), rowC 5 1 (.slice (some ⟨b95, 0, none⟩) 6 6) 6 ([99, 111, 109, 109, 105, 116].flatMap encB)] w96 := H97.cast (by rw [show ((kOfP_3) : List Value) = [99, 111, 109, 109, 105, 116].flatMap encB from rfl])
 have S99 := H98.pk [0, 1, 2, 3]
 refine kq _ _ S99 ?_
 clear kq Kq
 refine h_do2 0 2 rfl rfl (by kernel_rfl) (wants0 rfl) (wants0 rfl) (fun Kq kq => ?_) (fun Kq kq => ?_)
 ·refine zdc 8 (wNew_any w96) ?_
  rintro _ w101 ⟨r102, a103, c104, rfl, k105, p106, q107⟩
  have H108 := H98.addU p106 k105 q107
  have H109 : Sat w [restC w (fun _ => False), cellC b2 59 (kOfP_0 cl seq), cellC b6 61 (hc x), cellC b10 61 (hc hash0), rowC 5 1 (.slice (some ⟨b95, 0, none⟩) 6 6) 6 ([99, 111, 109, 109, 105, 116].flatMap encB), cellC r102 266 (kOfP_1 a103 (([] : List UInt8).length) c104), (kOfP_2 a103 (([] : List UInt8)) c104)] w101 := H108.open 5 rfl
  refine ⟨_, rfl, ?_⟩
  have S110 := H109.pk [0, 1, 2, 3]
  refine kq _ _ S110 ?_
  clear kq Kq
  refine zhd0 2 fun Kq kq => ?_
  refine d_convMark (e := 5) (s := [99, 111, 109, 109, 105, 116]) rfl H109 4 rfl (by kernel_rfl) (by kernel_rfl) rfl ?_
  intro w112 H113
  have S114 := H113.pk [0, 1, 2, 3]
  refine kq _ _ S114 ?_
  clear kq Kq
  refine zhd0 3 fun Kq kq => ?_
  have l121 := (show (rowB [99, 111, 109, 109, 105, 116]).length ≤ 16 from rowB_len _)
  refine zdc 11 (wRowL_any w112 r102 a103 c104 ([] : List UInt8) (H113.fn [5, 6]) (by simp) (some ⟨b95, 0, none⟩) 6 ([99, 111, 109, 109, 105, 116]) (ListAt.ofTxt (H113.at 4 rfl)) (off_txt (fun b hb => H113.offP [5, 6] 4 rfl rfl (by decide) hb)) (by first | omega | simp)) ?_
  rintro _ w116 ⟨a118, c119, rfl, T117⟩
  have H122 : Sat w [restC w (fun _ => False), cellC b2 59 (kOfP_0 cl seq), cellC b6 61 (hc x), cellC b10 61 (hc hash0), txtC (.slice (some ⟨b95, 0, none⟩) 6 6) ([99, 111, 109, 109, 105, 116]), cellC r102 266 (kOfP_1 a118 ((([] : List UInt8) ++ rowB ([99, 111, 109, 109, 105, 116])).length) c119), (kOfP_2 a118 (([] : List UInt8) ++ rowB ([99, 111, 109, 109, 105, 116])) c119)] w116 := (Sat.turnL (L' := [cellC r102 266 (kOfP_1 a118 ((([] : List UInt8) ++ rowB ([99, 111, 109, 109, 105, 116])).length) c119), (kOfP_2 a118 (([] : List UInt8) ++ rowB ([99, 111, 109, 109, 105, 116])) c119)]) (R := [restC w (fun _ => False), cellC b2 59 (kOfP_0 cl seq), cellC b6 61 (hc x), cellC b10 61 (hc hash0), txtC (.slice (some ⟨b95, 0, none⟩) 6 6) ([99, 111, 109, 109, 105, 116])]) H113 [5, 6] [0, 1, 2, 3, 4] (by decide) (by kernel_rfl) rfl T117).pk [2, 3, 4, 5, 6, 0, 1]
  refine ⟨_, rfl, ?_⟩
  have S123 := H122.pk [0, 1, 2, 3]
  refine kq _ _ S123 ?_
  clear kq Kq
  refine zhd0 6 fun Kq kq => ?_
  have l130 := intB_len cl
  refine zdc 14 (wInt_any w116 r102 a118 c119 (([] : List UInt8) ++ rowB ([99, 111, 109, 109, 105, 116])) (H122.fn [5, 6]) (by simp only [List.length_append, List.length_nil]; omega) cl (by omega)) ?_
  rintro _ w125 ⟨a127, c128, rfl, T126⟩
  have H131 := H122.tl [cellC r102 266 (kOfP_1 a127 (((([] : List UInt8) ++ rowB ([99, 111, 109, 109, 105, 116])) ++ intB cl).length) c128), (kOfP_2 a127 ((([] : List UInt8) ++ rowB ([99, 111, 109, 109, 105, 116])) ++ intB cl) c128)] [5, 6] [0, 1, 2, 3, 4] T126 [2, 3, 4, 5, 6, 0, 1]
  refine ⟨_, rfl, ?_⟩
  have S132 := H131.pk [0, 1, 2, 3]
  refine kq _ _ S132 ?_
  clear kq Kq
  refine zhd0 9 fun Kq kq => ?_
  have l139 := intB_len seq
  refine zdc 17 (wInt_any w125 r102 a127 c128 ((([] : List UInt8) ++ rowB ([99, 111, 109, 109, 105, 116])) ++ intB cl) (H131.fn [5, 6]) (by simp only [List.length_append, List.length_nil]; omega) seq (by omega)) ?_
  rintro _ w134 ⟨a136, c137, rfl, T135⟩
  have H140 : Sat w [restC w (fun _ => False), cellC b2 59 (kOfP_0 cl seq), cellC b6 61 (hc x), cellC b10 61 (hc hash0), txtC (.slice (some ⟨b95, 0, none⟩) 6 6) ([99, 111, 109, 109, 105, 116]), cellC r102 266 (kOfP_1 a136 ((((([] : List UInt8) ++ rowB ([99, 111, 109, 109, 105, 116])) ++ intB cl) ++ intB seq).length) c137), (kOfP_2 a136 (((([] : List UInt8) ++ rowB ([99, 111, 109, 109, 105, 116])) ++ intB cl) ++ intB seq) c137)] w134 := (Sat.turnL (L' := [cellC r102 266 (kOfP_1 a136 ((((([] : List UInt8) ++ rowB ([99, 111, 109, 109, 105, 116])) ++ intB cl) ++ intB seq).length) c137), (kOfP_2 a136 (((([] : List UInt8) ++ rowB ([99, 111, 109, 109, 105, 116])) ++ intB cl) ++ intB seq) c137)]) (R := [restC w (fun _ => False), cellC b2 59 (kOfP_0 cl seq), cellC b6 61 (hc x), cellC b10 61 (hc hash0), txtC (.slice (some ⟨b95, 0, none⟩) 6 6) ([99, 111, 109, 109, 105, 116])]) H131 [5, 6] [0, 1, 2, 3, 4] (by decide) (by kernel_rfl) rfl T135).pk [2, 3, 4, 5, 6, 0, 1]
  refine ⟨_, rfl, ?_⟩
  have S141 := H140.pk [0, 1, 2, 3]
  refine kq _ _ S141 ?_
  clear kq Kq
  refine hv0 10 S141 7 (pt r102 0) ?_
  refine zhf ?_
  apply ztn
  apply zsl
  refine wv 18 (pt r102 0) ?_
  refine zwN 19 (hc x) (H140.at 2 rfl) ?_
  refine zwd fun Kq kq => ?_
  have l148 := x.len
  refine zdc 20 (wHash_any w134 r102 a136 c137 (((([] : List UInt8) ++ rowB ([99, 111, 109, 109, 105, 116])) ++ intB cl) ++ intB seq) (H140.fn [5, 6]) (by simp only [List.length_append, List.length_nil]; omega) x) ?_
  rintro _ w143 ⟨a145, c146, rfl, T144⟩
  have H149 := H140.tl [cellC r102 266 (kOfP_1 a145 (((((([] : List UInt8) ++ rowB ([99, 111, 109, 109, 105, 116])) ++ intB cl) ++ intB seq) ++ x.l).length) c146), (kOfP_2 a145 ((((([] : List UInt8) ++ rowB ([99, 111, 109, 109, 105, 116])) ++ intB cl) ++ intB seq) ++ x.l) c146)] [5, 6] [0, 1, 2, 3, 4] T144 [2, 3, 4, 5, 6, 0, 1]
  refine ⟨_, rfl, ?_⟩
  refine kq _ _ ?_
  clear kq Kq
  refine wv 21 (.slice pa p.length pc) ?_
  refine zwd fun Kq kq => ?_
  have l156 := rowB_len p
  refine zdc 22 (wRowL_any w143 r102 a145 c146 ((((([] : List UInt8) ++ rowB ([99, 111, 109, 109, 105, 116])) ++ intB cl) ++ intB seq) ++ x.l) (H149.fn [5, 6]) (by simp only [List.length_append, List.length_nil]; omega) pa pc p (ListAt.now H149 0 rfl hp) (list_off encB_len (by decide) H149 [5, 6] 0 rfl rfl (by decide) hp) (by omega)) ?_
  rintro _ w151 ⟨a153, c154, rfl, T152⟩
  have H157 : Sat w [restC w (fun _ => False), cellC b2 59 (kOfP_0 cl seq), cellC b6 61 (hc x), cellC b10 61 (hc hash0), txtC (.slice (some ⟨b95, 0, none⟩) 6 6) ([99, 111, 109, 109, 105, 116]), cellC r102 266 (kOfP_1 a153 ((((((([] : List UInt8) ++ rowB ([99, 111, 109, 109, 105, 116])) ++ intB cl) ++ intB seq) ++ x.l) ++ rowB p).length) c154), (kOfP_2 a153 (((((([] : List UInt8) ++ rowB ([99, 111, 109, 109, 105, 116])) ++ intB cl) ++ intB seq) ++ x.l) ++ rowB p) c154)] w151 := (Sat.turnL (L' := [cellC r102 266 (kOfP_1 a153 ((((((([] : List UInt8) ++ rowB ([99, 111, 109, 109, 105, 116])) ++ intB cl) ++ intB seq) ++ x.l) ++ rowB p).length) c154), (kOfP_2 a153 (((((([] : List UInt8) ++ rowB ([99, 111, 109, 109, 105, 116])) ++ intB cl) ++ intB seq) ++ x.l) ++ rowB p) c154)]) (R := [restC w (fun _ => False), cellC b2 59 (kOfP_0 cl seq), cellC b6 61 (hc x), cellC b10 61 (hc hash0), txtC (.slice (some ⟨b95, 0, none⟩) 6 6) ([99, 111, 109, 109, 105, 116])]) H149 [5, 6] [0, 1, 2, 3, 4] (by decide) (by kernel_rfl) rfl T152).pk [2, 3, 4, 5, 6, 0, 1]
  refine ⟨_, rfl, ?_⟩
  refine kq _ _ ?_
  clear kq Kq
  refine zwd fun Kq kq => ?_
  refine zdc 23 (wBytes_any w151 r102 a153 c154 (((((([] : List UInt8) ++ rowB ([99, 111, 109, 109, 105, 116])) ++ intB cl) ++ intB seq) ++ x.l) ++ rowB p) (H157.fn [5, 6]) (by simp only [List.length_append, List.length_nil]; omega)) ?_
  rintro _ w159 ⟨u160, rfl, T161⟩
  have H162 := H157.tl [cellC r102 266 (kOfP_1 a153 ((((((([] : List UInt8) ++ rowB ([99, 111, 109, 109, 105, 116])) ++ intB cl) ++ intB seq) ++ x.l) ++ rowB p).length) c154), (kOfP_2 a153 (((((([] : List UInt8) ++ rowB ([99, 111, 109, 109, 105, 116])) ++ intB cl) ++ intB seq) ++ x.l) ++ rowB p) c154), rowC 5 1 u160 ((((((([] : List UInt8) ++ rowB ([99, 111, 109, 109, 105, 116])) ++ intB cl) ++ intB seq) ++ x.l) ++ rowB p).length) ((((((([] : List UInt8) ++ rowB ([99, 111, 109, 109, 105, 116])) ++ intB cl) ++ intB seq) ++ x.l) ++ rowB p).flatMap encB)] [5, 6] [0, 1, 2, 3, 4] T161 [3, 4, 5, 6, 7, 0, 1, 2]
  obtain ⟨a163, c164, rfl⟩ := ownsRow_shape (H162.at 7 rfl)
  refine ⟨_, rfl, ?_⟩
  refine kq _ _ ?_
  clear kq Kq
  refine zwd fun Kq kq => ?_
  refine zdq 24 (pSum_any w159 a163 c164 (((((([] : List UInt8) ++ rowB ([99, 111, 109, 109, 105, 116])) ++ intB cl) ++ intB seq) ++ x.l) ++ rowB p) (ListAt.row (enc := encB) (sz := 1) encB_len (by decide) (H162.at 7 rfl)) (ofT_lim cl seq x p hlp)) H162 ?_
  intro w166 H167
  refine kq _ _ ?_
  clear kq Kq
  refine zwd fun Kq kq => ?_
  refine zds1 (hc (shaR (((((([] : List UInt8) ++ rowB ([99, 111, 109, 109, 105, 116])) ++ intB cl) ++ intB seq) ++ x.l) ++ rowB p))) H167 3 ?_
  intro w170 (H171 : Sat w [restC w (fun _ => False), cellC b2 59 (kOfP_0 cl seq), cellC b6 61 (hc x), cellC b10 61 (hc (shaR (((((([] : List UInt8) ++ rowB ([99, 111, 109, 109, 105, 116])) ++ intB cl) ++ intB seq) ++ x.l) ++ rowB p))), txtC (.slice (some ⟨b95, 0, none⟩) 6 6) ([99, 111, 109, 109, 105, 116]), cellC r102 266 (kOfP_1 a153 ((((((([] : List UInt8) ++ rowB ([99, 111, 109, 109, 105, 116])) ++ intB cl) ++ intB seq) ++ x.l) ++ rowB p).length) c154), (kOfP_2 a153 (((((([] : List UInt8) ++ rowB ([99, 111, 109, 109, 105, 116])) ++ intB cl) ++ intB seq) ++ x.l) ++ rowB p) c154), (kOfP_2 a163 (((((([] : List UInt8) ++ rowB ([99, 111, 109, 109, 105, 116])) ++ intB cl) ++ intB seq) ++ x.l) ++ rowB p) c164)] w170)
  refine kq _ _ ?_
  clear kq Kq
  apply znt
  apply w_ret
  refine end1 rfl (res_cellN (vs := (hc (shaR (((((([] : List UInt8) ++ rowB ([99, 111, 109, 109, 105, 116])) ++ intB cl) ++ intB seq) ++ x.l) ++ rowB p)))) rfl (by kernel_rfl) (by kernel_rfl) (by exact Nat.le_of_ble_eq_true (by kernel_rfl)) (H171.at 3 rfl) (by kernel_rfl)) ?_
  exact ⟨by rw [ofT_app], H171.upd 0 rfl [] (fun _ h => h.elim)⟩
 refine d_convMark (e := 5) (s := [99, 111, 109, 109, 105, 116]) rfl H98 4 rfl (by kernel_rfl) (by kernel_rfl) rfl ?_
 intro w173 H174
 have S175 := H174.pk [0, 1, 2, 3]
 refine kq _ _ S175 ?_
 clear kq Kq
 refine zhd0 0 fun Kq kq => ?_
 refine zdc 8 (wNew_any w173) ?_
 rintro _ w177 ⟨r178, a179, c180, rfl, k181, p182, q183⟩
 have H184 : Sat w [restC w (fun _ => False), cellC b2 59 (kOfP_0 cl seq), cellC b6 61 (hc x), cellC b10 61 (hc hash0), txtC (.slice (some ⟨b95, 0, none⟩) 6 6) ([99, 111, 109, 109, 105, 116]), sepC (wrL r178 a179 c180 ([] : List UInt8))] w177 := H174.addU p182 k181 q183
 have H185 := H184.open 5 rfl
 refine ⟨_, rfl, ?_⟩
 have S186 := H185.pk [0, 1, 2, 3]
 refine kq _ _ S186 ?_
 clear kq Kq
 refine zhd0 3 fun Kq kq => ?_
 have l193 := (show (rowB [99, 111, 109, 109, 105, 116]).length ≤ 16 from rowB_len _)
 refine zdc 11 (wRowL_any w177 r178 a179 c180 ([] : List UInt8) (H185.fn [5, 6]) (by simp) (some ⟨b95, 0, none⟩) 6 ([99, 111, 109, 109, 105, 116]) (ListAt.ofTxt (H185.at 4 rfl)) (off_txt (fun b hb => H185.offP [5, 6] 4 rfl rfl (by decide) hb)) (by first | omega | simp)) ?_
 rintro _ w188 ⟨a190, c191, rfl, T189⟩
 have H194 : Sat w [restC w (fun _ => False), cellC b2 59 (kOfP_0 cl seq), cellC b6 61 (hc x), cellC b10 61 (hc hash0), txtC (.slice (some ⟨b95, 0, none⟩) 6 6) ([99, 111, 109, 109, 105, 116]), cellC r178 266 (kOfP_1 a190 ((([] : List UInt8) ++ rowB ([99, 111, 109, 109, 105, 116])).length) c191), (kOfP_2 a190 (([] : List UInt8) ++ rowB ([99, 111, 109, 109, 105, 116])) c191)] w188 := (Sat.turnL (L' := [cellC r178 266 (kOfP_1 a190 ((([] : List UInt8) ++ rowB ([99, 111, 109, 109, 105, 116])).length) c191), (kOfP_2 a190 (([] : List UInt8) ++ rowB ([99, 111, 109, 109, 105, 116])) c191)]) (R := [restC w (fun _ => False), cellC b2 59 (kOfP_0 cl seq), cellC b6 61 (hc x), cellC b10 61 (hc hash0), txtC (.slice (some ⟨b95, 0, none⟩) 6 6) ([99, 111, 109, 109, 105, 116])]) H185 [5, 6] [0, 1, 2, 3, 4] (by decide) (by kernel_rfl) rfl T189).pk [2, 3, 4, 5, 6, 0, 1]
 refine ⟨_, rfl, ?_⟩
 have S195 := H194.pk [0, 1, 2, 3]
 refine kq _ _ S195 ?_
 clear kq Kq
 refine zhd0 6 fun Kq kq => ?_
 have l202 := intB_len cl
 refine zdc 14 (wInt_any w188 r178 a190 c191 (([] : List UInt8) ++ rowB ([99, 111, 109, 109, 105, 116])) (H194.fn [5, 6]) (by simp only [List.length_append, List.length_nil]; omega) cl (by omega)) ?_
 rintro _ w197 ⟨a199, c200, rfl, T198⟩
 have H203 := H194.tl [cellC r178 266 (kOfP_1 a199 (((([] : List UInt8) ++ rowB ([99, 111, 109, 109, 105, 116])) ++ intB cl).length) c200), (kOfP_2 a199 ((([] : List UInt8) ++ rowB ([99, 111, 109, 109, 105, 116])) ++ intB cl) c200)] [5, 6] [0, 1, 2, 3, 4] T198 [2, 3, 4, 5, 6, 0, 1]
 refine ⟨_, rfl, ?_⟩
 have S204 := H203.pk [0, 1, 2, 3]
 refine kq _ _ S204 ?_
 clear kq Kq
 refine zhd0 9 fun Kq kq => ?_
 have l211 := intB_len seq
 refine zdc 17 (wInt_any w197 r178 a199 c200 ((([] : List UInt8) ++ rowB ([99, 111, 109, 109, 105, 116])) ++ intB cl) (H203.fn [5, 6]) (by simp only [List.length_append, List.length_nil]; omega) seq (by omega)) ?_
 rintro _ w206 ⟨a208, c209, rfl, T207⟩
 have H212 : Sat w [restC w (fun _ => False), cellC b2 59 (kOfP_0 cl seq), cellC b6 61 (hc x), cellC b10 61 (hc hash0), txtC (.slice (some ⟨b95, 0, none⟩) 6 6) ([99, 111, 109, 109, 105, 116]), cellC r178 266 (kOfP_1 a208 ((((([] : List UInt8) ++ rowB ([99, 111, 109, 109, 105, 116])) ++ intB cl) ++ intB seq).length) c209), (kOfP_2 a208 (((([] : List UInt8) ++ rowB ([99, 111, 109, 109, 105, 116])) ++ intB cl) ++ intB seq) c209)] w206 := (Sat.turnL (L' := [cellC r178 266 (kOfP_1 a208 ((((([] : List UInt8) ++ rowB ([99, 111, 109, 109, 105, 116])) ++ intB cl) ++ intB seq).length) c209), (kOfP_2 a208 (((([] : List UInt8) ++ rowB ([99, 111, 109, 109, 105, 116])) ++ intB cl) ++ intB seq) c209)]) (R := [restC w (fun _ => False), cellC b2 59 (kOfP_0 cl seq), cellC b6 61 (hc x), cellC b10 61 (hc hash0), txtC (.slice (some ⟨b95, 0, none⟩) 6 6) ([99, 111, 109, 109, 105, 116])]) H203 [5, 6] [0, 1, 2, 3, 4] (by decide) (by kernel_rfl) rfl T207).pk [2, 3, 4, 5, 6, 0, 1]
 refine ⟨_, rfl, ?_⟩
 have S213 := H212.pk [0, 1, 2, 3]
 refine kq _ _ S213 ?_
 clear kq Kq
 refine hv0 10 S213 7 (pt r178 0) ?_
 refine zhf ?_
 apply ztn
 apply zsl
 refine wv 18 (pt r178 0) ?_
 refine zwN 19 (hc x) (H212.at 2 rfl) ?_
 refine zwd fun Kq kq => ?_
 have l220 := x.len
 refine zdc 20 (wHash_any w206 r178 a208 c209 (((([] : List UInt8) ++ rowB ([99, 111, 109, 109, 105, 116])) ++ intB cl) ++ intB seq) (H212.fn [5, 6]) (by simp only [List.length_append, List.length_nil]; omega) x) ?_
 rintro _ w215 ⟨a217, c218, rfl, T216⟩
 have H221 := H212.tl [cellC r178 266 (kOfP_1 a217 (((((([] : List UInt8) ++ rowB ([99, 111, 109, 109, 105, 116])) ++ intB cl) ++ intB seq) ++ x.l).length) c218), (kOfP_2 a217 ((((([] : List UInt8) ++ rowB ([99, 111, 109, 109, 105, 116])) ++ intB cl) ++ intB seq) ++ x.l) c218)] [5, 6] [0, 1, 2, 3, 4] T216 [2, 3, 4, 5, 6, 0, 1]
 refine ⟨_, rfl, ?_⟩
 refine kq _ _ ?_
 clear kq Kq
 refine wv 21 (.slice pa p.length pc) ?_
 refine zwd fun Kq kq => ?_
 have l228 := rowB_len p
 refine zdc 22 (wRowL_any w215 r178 a217 c218 ((((([] : List UInt8) ++ rowB ([99, 111, 109, 109, 105, 116])) ++ intB cl) ++ intB seq) ++ x.l) (H221.fn [5, 6]) (by simp only [List.length_append, List.length_nil]; omega) pa pc p (ListAt.now H221 0 rfl hp) (list_off encB_len (by decide) H221 [5, 6] 0 rfl rfl (by decide) hp) (by omega)) ?_
 rintro _ w223 ⟨a225, c226, rfl, T224⟩
 have H229 : Sat w [restC w (fun _ => False), cellC b2 59 (kOfP_0 cl seq), cellC b6 61 (hc x), cellC b10 61 (hc hash0), txtC (.slice (some ⟨b95, 0, none⟩) 6 6) ([99, 111, 109, 109, 105, 116]), cellC r178 266 (kOfP_1 a225 ((((((([] : List UInt8) ++ rowB ([99, 111, 109, 109, 105, 116])) ++ intB cl) ++ intB seq) ++ x.l) ++ rowB p).length) c226), (kOfP_2 a225 (((((([] : List UInt8) ++ rowB ([99, 111, 109, 109, 105, 116])) ++ intB cl) ++ intB seq) ++ x.l) ++ rowB p) c226)] w223 := (Sat.turnL (L' := [cellC r178 266 (kOfP_1 a225 ((((((([] : List UInt8) ++ rowB ([99, 111, 109, 109, 105, 116])) ++ intB cl) ++ intB seq) ++ x.l) ++ rowB p).length) c226), (kOfP_2 a225 (((((([] : List UInt8) ++ rowB ([99, 111, 109, 109, 105, 116])) ++ intB cl) ++ intB seq) ++ x.l) ++ rowB p) c226)]) (R := [restC w (fun _ => False), cellC b2 59 (kOfP_0 cl seq), cellC b6 61 (hc x), cellC b10 61 (hc hash0), txtC (.slice (some ⟨b95, 0, none⟩) 6 6) ([99, 111, 109, 109, 105, 116])]) H221 [5, 6] [0, 1, 2, 3, 4] (by decide) (by kernel_rfl) rfl T224).pk [2, 3, 4, 5, 6, 0, 1]
 refine ⟨_, rfl, ?_⟩
 refine kq _ _ ?_
 clear kq Kq
 refine zwd fun Kq kq => ?_
 refine zdc 23 (wBytes_any w223 r178 a225 c226 (((((([] : List UInt8) ++ rowB ([99, 111, 109, 109, 105, 116])) ++ intB cl) ++ intB seq) ++ x.l) ++ rowB p) (H229.fn [5, 6]) (by simp only [List.length_append, List.length_nil]; omega)) ?_
 rintro _ w231 ⟨u232, rfl, T233⟩
 have H234 := H229.tl [cellC r178 266 (kOfP_1 a225 ((((((([] : List UInt8) ++ rowB ([99, 111, 109, 109, 105, 116])) ++ intB cl) ++ intB seq) ++ x.l) ++ rowB p).length) c226), (kOfP_2 a225 (((((([] : List UInt8) ++ rowB ([99, 111, 109, 109, 105, 116])) ++ intB cl) ++ intB seq) ++ x.l) ++ rowB p) c226), rowC 5 1 u232 ((((((([] : List UInt8) ++ rowB ([99, 111, 109, 109, 105, 116])) ++ intB cl) ++ intB seq) ++ x.l) ++ rowB p).length) ((((((([] : List UInt8) ++ rowB ([99, 111, 109, 109, 105, 116])) ++ intB cl) ++ intB seq) ++ x.l) ++ rowB p).flatMap encB)] [5, 6] [0, 1, 2, 3, 4] T233 [3, 4, 5, 6, 7, 0, 1, 2]
 obtain ⟨a235, c236, rfl⟩ := ownsRow_shape (H234.at 7 rfl)
 refine ⟨_, rfl, ?_⟩
 refine kq _ _ ?_
 clear kq Kq
 refine zwd fun Kq kq => ?_
 refine zdq 24 (pSum_any w231 a235 c236 (((((([] : List UInt8) ++ rowB ([99, 111, 109, 109, 105, 116])) ++ intB cl) ++ intB seq) ++ x.l) ++ rowB p) (ListAt.row (enc := encB) (sz := 1) encB_len (by decide) (H234.at 7 rfl)) (ofT_lim cl seq x p hlp)) H234 ?_
 intro w238 H239
 refine kq _ _ ?_
 clear kq Kq
 refine zwd fun Kq kq => ?_
 refine zds1 (hc (shaR (((((([] : List UInt8) ++ rowB ([99, 111, 109, 109, 105, 116])) ++ intB cl) ++ intB seq) ++ x.l) ++ rowB p))) H239 3 ?_
 intro w242 (H243 : Sat w [restC w (fun _ => False), cellC b2 59 (kOfP_0 cl seq), cellC b6 61 (hc x), cellC b10 61 (hc (shaR (((((([] : List UInt8) ++ rowB ([99, 111, 109, 109, 105, 116])) ++ intB cl) ++ intB seq) ++ x.l) ++ rowB p))), txtC (.slice (some ⟨b95, 0, none⟩) 6 6) ([99, 111, 109, 109, 105, 116]), cellC r178 266 (kOfP_1 a225 ((((((([] : List UInt8) ++ rowB ([99, 111, 109, 109, 105, 116])) ++ intB cl) ++ intB seq) ++ x.l) ++ rowB p).length) c226), (kOfP_2 a225 (((((([] : List UInt8) ++ rowB ([99, 111, 109, 109, 105, 116])) ++ intB cl) ++ intB seq) ++ x.l) ++ rowB p) c226), (kOfP_2 a235 (((((([] : List UInt8) ++ rowB ([99, 111, 109, 109, 105, 116])) ++ intB cl) ++ intB seq) ++ x.l) ++ rowB p) c236)] w242)
 refine kq _ _ ?_
 clear kq Kq
 apply znt
 apply w_ret
 refine end1 rfl (res_cellN (vs := (hc (shaR (((((([] : List UInt8) ++ rowB ([99, 111, 109, 109, 105, 116])) ++ intB cl) ++ intB seq) ++ x.l) ++ rowB p)))) rfl (by kernel_rfl) (by kernel_rfl) (by exact Nat.le_of_ble_eq_true (by kernel_rfl)) (H243.at 3 rfl) (by kernel_rfl)) ?_
 exact ⟨by rw [ofT_app], H243.upd 0 rfl [] (fun _ h => h.elim)⟩
theorem pMatches_any (w : World) (y : Hash) (oi : Int) (cl seq : Int) (x : Hash) (pa : Option Addr) (pc : Nat) (p : List UInt8) (hp : ListAt encB 1 w (.slice pa p.length pc) p) (hcl : cl ≤ 9223372036854775807) (hsq : seq ≤ 9223372036854775807) (hlp : p.length ≤ 1000) :
  Calls Tryz.prog 94 #[(.agg ⟨(hc y)⟩), (.agg ⟨([(.int .i64 (cl)), (.int .i64 (seq))] : List Value)⟩), (.agg ⟨(([(.int .i64 (oi)), (.slice pa p.length pc)] : List Value) ++ hc x)⟩)] w fun e w' => e = .returned (.bool (decide (y = shaR (ofT cl seq x p)))) ∧ Upd [] w w' := by
 have H := Sat.start0 w
 refine calls_fr Tryz.func94 rfl 15 rfl (Nat.le_of_ble_eq_true rfl) ?_
 apply zsl
 refine zwd fun Kq kq => ?_
 refine zdb (hc y) H ?_
 intro b2 w3 H4
 refine kq _ _ ?_
 clear kq Kq
 refine zwd fun Kq kq => ?_
 refine zdb (kOfP_0 cl seq) H4 ?_
 intro b6 w7 (H8 : Sat w [restC w (fun _ => False), cellC b2 61 (hc y), cellC b6 59 (kOfP_0 cl seq)] w7)
 refine kq _ _ ?_
 clear kq Kq
 refine zwd fun Kq kq => ?_
 refine zdb (([(.int .i64 (oi)), (.slice pa p.length pc)] : List Value) ++ hc x) H8 ?_
 intro b10 w11 H12
 refine kq _ _ ?_
 clear kq Kq
 refine wv 6 (.bool false) ?_
 apply znt
 apply w_seq
 refine zqs H12 ?_
 refine qv 7 (.agg ⟨(hc y)⟩) ?_ (hr := fun _ H' => (e_loadN (vs := (hc y)) rfl (by kernel_rfl) (by kernel_rfl) (by exact Nat.le_of_ble_eq_true (by kernel_rfl)) (H'.at 1 rfl) (by kernel_rfl)))
 refine qv 8 (.agg ⟨(kOfP_0 cl seq)⟩) ?_ (hr := fun _ H' => (e_loadN (vs := (kOfP_0 cl seq)) rfl (by kernel_rfl) (by kernel_rfl) (by exact Nat.le_of_ble_eq_true (by kernel_rfl)) (H'.at 2 rfl) (by kernel_rfl)))
 refine qv 9 (pt b10 2) ?_
 refine qv 10 (.agg ⟨(hc x)⟩) ?_ (hr := fun _ H' => (e_loadN (vs := (hc x)) rfl (by kernel_rfl) (by kernel_rfl) (by exact Nat.le_of_ble_eq_true (by kernel_rfl)) (H'.at 3 rfl) (by kernel_rfl)))
 refine qv 11 (pt b10 1) ?_
 refine qv 12 (.slice pa p.length pc) ?_ (hr := fun _ H' => (e_load1 rfl (by kernel_rfl) (H'.cell 3 rfl (by kernel_rfl))))
 refine q_call (wants0 rfl) (d := 13) (v := (.agg ⟨(hc (shaR (ofT cl seq x p)))⟩)) rfl (fun _ _ => by kernel_rfl) (fun w' H' => (pOf_any w' cl seq x pa pc p (ListAt.now H' 0 rfl hp) hcl hsq hlp).mono fun _ _ h => ⟨h.1, H'.keepU h.2⟩) ?_
 refine qv 14 (.bool (decide (y = (shaR (ofT cl seq x p))))) ?_ (hr := fun _ H' => (e_eqHash y (shaR (ofT cl seq x p)) rfl rfl))
 refine qv 6 (.bool (decide (y = (shaR (ofT cl seq x p))))) ?_
 refine q_end ?_
 intro w13 H14
 apply ztn
 apply w_ret
 refine ze1 (.bool (decide (y = (shaR (ofT cl seq x p))))) ?_
 exact ⟨rfl, H14.upd 0 rfl [] (fun _ h => h.elim)⟩
end Go.Proofs.YtenihpghfdcpkaaGreat
