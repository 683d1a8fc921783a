/- WHAT IS PROVED: a commitment's hash, the program's way: contracts. Conditions: stated with each. -/
import Derived.Test.YtoiplcicbjimlaaOfR
import Derived.Test.YtoiplcicbjimlaaShaP
import Derived.Test.YtoiplcicbjimlaaWt
namespace Go.Proofs.Ytoiplcicbjimlaa
open Go.RowKit

theorem slice_addr {va : Option Addr} {n c n' c' : Nat} {ad : Addr} (h : Value.slice va n c = .slice (some ad) n' c') : va = some ad := by
  simp only [Value.slice.injEq] at h; exact h.1
theorem list_off {α : Type} {enc : α → List Value} {sz : Nat} (hs : ∀ x, (enc x).length = sz) (h0 : 0 < sz) {W w : World} {G : List Ck} (H : Sat W G w) (is : List Nat) (j : Nat) {B : List Ck} (hB : (is.filterMap fun i => G[i]?) = B) (hj : G[j]? = some (restC W fun _ => False)) (hne : is.all (fun i => !Nat.beq i j) = true) {va : Option Addr} {n vc : Nat} {ls : List α} (hv : ListAt enc sz W (.slice va n vc) ls) : 0 < ls.length → ∀ a, va = some a → ¬ (sepC B).fp a.block := by
  intro h1 a ha hfp
  obtain ⟨vb, vo, vc', hva, hvs⟩ := hv.cells hs h0 h1
  have h2 := slice_addr hva
  rw [h2] at ha
  obtain rfl := (Option.some.inj ha)
  have hl : 0 < (ls.flatMap enc).length := by rw [flat_len enc sz hs]; exact Nat.mul_pos h1 h0
  have hc := hvs 0 _ (List.getElem?_eq_getElem hl)
  rw [Addr.add_lit] at hc
  have hlt := World.block_lt_of_cell? W _ hc
  subst hB
  obtain ⟨A, hA, hAf⟩ := hfp
  obtain ⟨i, hi, he⟩ := List.mem_filterMap.1 hA
  have hij : Nat.beq i j = false := by simpa using List.all_eq_true.1 hne i hi
  exact H.apart i j he hj hij _ hAf ⟨hlt, fun h => h⟩

set_option maxRecDepth 100000 in
set_option maxHeartbeats 1000000 in
theorem pOf_any (w : World) (cl seq : Int) (x : Hash) (pa : Option Addr) (pc : Nat) (p : List UInt8) (hp : ListAt encB 1 w (.slice pa p.length pc) p) (hcl : cl ≤ 9223372036854775807) (hsq : seq ≤ 9223372036854775807) (hlp : p.length ≤ 1000) :
    Calls Try.prog 48 #[(.agg ⟨([(.int .i64 (cl)), (.int .i64 (seq))] : List Value)⟩), (.agg ⟨(hc x)⟩), (.slice pa p.length pc)] w fun e w' => e = .returned (.agg ⟨hc (shaR (ofT cl seq x p))⟩) ∧ Upd [] w w' := by
  have H := Sat.start0 w
  refine calls_fr Try.func48 rfl 25 rfl (Nat.le_of_ble_eq_true rfl) ?_
  refine w_seq ?_
  refine w_lit ?_
  refine wl_do (wants0 rfl) (fun K1 hK1 => ?_)
  refine d_box (vs := ([(.int .i64 (cl)), (.int .i64 (seq))] : List Value)) rfl H rfl rfl ?_
  intro b2 w3 (H4 : Sat w [restC w (fun _ => False), cellC b2 35 ([(.int .i64 (cl)), (.int .i64 (seq))] : List Value)] w3)
  refine hK1 _ _ ?_
  clear hK1 K1
  refine wl_do (wants0 rfl) (fun K5 hK5 => ?_)
  refine d_box (vs := (hc x)) rfl H4 rfl rfl ?_
  intro b6 w7 (H8 : Sat w [restC w (fun _ => False), cellC b2 35 ([(.int .i64 (cl)), (.int .i64 (seq))] : List Value), cellC b6 24 (hc x)] w7)
  refine hK5 _ _ ?_
  clear hK5 K5
  refine wl_do (wants0 rfl) (fun K9 hK9 => ?_)
  refine d_alloc (zs := (hc hash0)) (z := (.agg ⟨(hc hash0)⟩)) rfl H8 (by kernel_rfl) (by kernel_rfl) ?_
  intro b10 w11 (H12 : Sat w [restC w (fun _ => False), cellC b2 35 ([(.int .i64 (cl)), (.int .i64 (seq))] : List Value), cellC b6 24 (hc x), cellC b10 24 (hc hash0)] w11)
  refine hK9 _ _ ?_
  clear hK9 K9
  refine w_nil ?_
  refine then_normal ?_
  refine w_seq ?_
  refine h_start H12 [restC w (fun _ => False), cellC b2 35 ([(.int .i64 (cl)), (.int .i64 (seq))] : List Value), cellC b6 24 (hc x), cellC b10 24 (hc hash0)] 11 rfl (by kernel_rfl) (fun Hx => (Hx.pick [0, 1, 2, 3] (by decide))) ?_
  intro w13 H14 S15
  refine h_val 4 rfl (by kernel_rfl) (by kernel_rfl) (by kernel_rfl) (fun _ _ _ h => h) S15 (wants0 rfl) (d := 12) (v := (.pointer (some ⟨b2, 0, none⟩))) rfl (fun _ H' => (by kernel_rfl)) ?_
  refine h_val 5 rfl (by kernel_rfl) (by kernel_rfl) (by kernel_rfl) (fun _ _ _ h => h) S15 (wants0 rfl) (d := 13) (v := (.int .i64 (cl))) rfl (fun _ H' => (e_load1 rfl (by kernel_rfl) (H'.cell 1 rfl rfl))) ?_
  refine h_val 7 rfl (by kernel_rfl) (by kernel_rfl) (by kernel_rfl) (fun _ _ _ h => h) S15 (wants0 rfl) (d := 15) (v := (.pointer (some ⟨b2, 1, none⟩))) rfl (fun _ H' => (by kernel_rfl)) ?_
  refine h_val 8 rfl (by kernel_rfl) (by kernel_rfl) (by kernel_rfl) (fun _ _ _ h => h) S15 (wants0 rfl) (d := 16) (v := (.int .i64 (seq))) rfl (fun _ H' => (e_load1 rfl (by kernel_rfl) (H'.cell 1 rfl rfl))) ?_
  refine h_do2 0 1 rfl rfl (by kernel_rfl) (wants0 rfl) (wants0 rfl) (fun K16 hK16 => ?_) (fun K16 hK16 => ?_)
  · refine d_call (d := 8) rfl (by kernel_rfl) (wNew_any w13) ?_
    rintro _ w17 ⟨r18, a19, c20, rfl, k21, p22, q23⟩
    have H24 : Sat w [restC w (fun _ => False), cellC b2 35 ([(.int .i64 (cl)), (.int .i64 (seq))] : List Value), cellC b6 24 (hc x), cellC b10 24 (hc hash0), sepC (wrL r18 a19 c20 ([] : List UInt8))] w17 := H14.addU p22 k21 q23
    have H25 : Sat w [restC w (fun _ => False), cellC b2 35 ([(.int .i64 (cl)), (.int .i64 (seq))] : List Value), cellC b6 24 (hc x), cellC b10 24 (hc hash0), cellC r18 134 ([(.slice a19 (([] : List UInt8).length) c20)] : List Value), rowC 5 1 (.slice a19 (([] : List UInt8).length) c20) (([] : List UInt8).length) (([] : List UInt8).flatMap encB)] w17 := H24.open 4 rfl
    refine ⟨_, rfl, ?_⟩
    have S26 := H25.pick [0, 1, 2, 3] (by decide)
    refine hK16 _ _ S26 ?_
    clear hK16 K16
    refine h_do 1 rfl (by kernel_rfl) (wants0 rfl) (fun K27 hK27 => ?_)
    refine d_buildSlice (e := 5) (size := 1) (bytes := 1) (z := (.int .u8 (0))) (pvs := [(0, (.int .u8 (99))), (1, (.int .u8 (111))), (2, (.int .u8 (109))), (3, (.int .u8 (109))), (4, (.int .u8 (105))), (5, (.int .u8 (116)))]) (vs := ([(.int .u8 (99)), (.int .u8 (111)), (.int .u8 (109)), (.int .u8 (109)), (.int .u8 (105)), (.int .u8 (116))] : List Value)) rfl H25 (by kernel_rfl) (by kernel_rfl) (by kernel_rfl) (by kernel_rfl) (by kernel_rfl) rfl rfl ?_
    intro b28 w29 (H30 : Sat w [restC w (fun _ => False), cellC b2 35 ([(.int .i64 (cl)), (.int .i64 (seq))] : List Value), cellC b6 24 (hc x), cellC b10 24 (hc hash0), cellC r18 134 ([(.slice a19 (([] : List UInt8).length) c20)] : List Value), rowC 5 1 (.slice a19 (([] : List UInt8).length) c20) (([] : List UInt8).length) (([] : List UInt8).flatMap encB), rowC 5 1 (.slice (some ⟨b28, 0, none⟩) 6 6) 6 ([(.int .u8 (99)), (.int .u8 (111)), (.int .u8 (109)), (.int .u8 (109)), (.int .u8 (105)), (.int .u8 (116))] : List Value)] w29)
    have H31 : Sat w [restC w (fun _ => False), cellC b2 35 ([(.int .i64 (cl)), (.int .i64 (seq))] : List Value), cellC b6 24 (hc x), cellC b10 24 (hc hash0), cellC r18 134 ([(.slice a19 (([] : List UInt8).length) c20)] : List Value), rowC 5 1 (.slice a19 (([] : List UInt8).length) c20) (([] : List UInt8).length) (([] : List UInt8).flatMap encB), rowC 5 1 (.slice (some ⟨b28, 0, none⟩) 6 6) 6 ([99, 111, 109, 109, 105, 116].flatMap encB)] w29 := H30.cast (by rw [show (([(.int .u8 (99)), (.int .u8 (111)), (.int .u8 (109)), (.int .u8 (109)), (.int .u8 (105)), (.int .u8 (116))] : List Value) : List Value) = [99, 111, 109, 109, 105, 116].flatMap encB from rfl])
    have S32 := H31.pick [0, 1, 2, 3] (by decide)
    refine hK27 _ _ S32 ?_
    clear hK27 K27
    refine h_do 2 rfl (by kernel_rfl) (wants0 rfl) (fun K33 hK33 => ?_)
    refine d_convMark (e := 5) (s := [99, 111, 109, 109, 105, 116]) rfl H31 6 rfl (by kernel_rfl) (by kernel_rfl) rfl ?_
    intro w34 (H35 : Sat w [restC w (fun _ => False), cellC b2 35 ([(.int .i64 (cl)), (.int .i64 (seq))] : List Value), cellC b6 24 (hc x), cellC b10 24 (hc hash0), cellC r18 134 ([(.slice a19 (([] : List UInt8).length) c20)] : List Value), rowC 5 1 (.slice a19 (([] : List UInt8).length) c20) (([] : List UInt8).length) (([] : List UInt8).flatMap encB), txtC (.slice (some ⟨b28, 0, none⟩) 6 6) ([99, 111, 109, 109, 105, 116])] w34)
    have S36 := H35.pick [0, 1, 2, 3] (by decide)
    refine hK33 _ _ S36 ?_
    clear hK33 K33
    refine h_do 3 rfl (by kernel_rfl) (wants0 rfl) (fun K37 hK37 => ?_)
    have l43 := (show (rowB [99, 111, 109, 109, 105, 116]).length ≤ 16 from rowB_len _)
    refine d_call (d := 11) rfl (by kernel_rfl) (wRowL_any w34 r18 a19 c20 ([] : List UInt8) (H35.fin [4, 5] (by decide) rfl) (by simp) (some ⟨b28, 0, none⟩) 6 ([99, 111, 109, 109, 105, 116]) (ListAt.ofTxt (H35.at 6 rfl)) (off_txt (fun b hb => H35.offP [4, 5] 6 rfl rfl (by decide) hb)) (by first | omega | simp)) ?_
    rintro _ w38 ⟨a40, c41, rfl, T39⟩
    have H44 : Sat w [restC w (fun _ => False), cellC b2 35 ([(.int .i64 (cl)), (.int .i64 (seq))] : List Value), cellC b6 24 (hc x), cellC b10 24 (hc hash0), cellC r18 134 ([(.slice a40 ((([] : List UInt8) ++ rowB ([99, 111, 109, 109, 105, 116])).length) c41)] : List Value), rowC 5 1 (.slice a40 ((([] : List UInt8) ++ rowB ([99, 111, 109, 109, 105, 116])).length) c41) ((([] : List UInt8) ++ rowB ([99, 111, 109, 109, 105, 116])).length) ((([] : List UInt8) ++ rowB ([99, 111, 109, 109, 105, 116])).flatMap encB), txtC (.slice (some ⟨b28, 0, none⟩) 6 6) ([99, 111, 109, 109, 105, 116])] w38 := (Sat.turnL (L' := [cellC r18 134 ([(.slice a40 ((([] : List UInt8) ++ rowB ([99, 111, 109, 109, 105, 116])).length) c41)] : List Value), rowC 5 1 (.slice a40 ((([] : List UInt8) ++ rowB ([99, 111, 109, 109, 105, 116])).length) c41) ((([] : List UInt8) ++ rowB ([99, 111, 109, 109, 105, 116])).length) ((([] : List UInt8) ++ rowB ([99, 111, 109, 109, 105, 116])).flatMap encB)]) (R := [restC w (fun _ => False), cellC b2 35 ([(.int .i64 (cl)), (.int .i64 (seq))] : List Value), cellC b6 24 (hc x), cellC b10 24 (hc hash0), txtC (.slice (some ⟨b28, 0, none⟩) 6 6) ([99, 111, 109, 109, 105, 116])]) H35 [4, 5] [0, 1, 2, 3, 6] (by decide) (by kernel_rfl) rfl T39).pick [2, 3, 4, 5, 0, 1, 6] (by decide)
    refine ⟨_, rfl, ?_⟩
    have S45 := H44.pick [0, 1, 2, 3] (by decide)
    refine hK37 _ _ S45 ?_
    clear hK37 K37
    refine h_do 6 rfl (by kernel_rfl) (wants0 rfl) (fun K46 hK46 => ?_)
    have l52 := intB_len cl
    refine d_call (d := 14) rfl (by kernel_rfl) (wInt_any w38 r18 a40 c41 (([] : List UInt8) ++ rowB ([99, 111, 109, 109, 105, 116])) (H44.fin [4, 5] (by decide) rfl) (by simp only [List.length_append, List.length_nil]; omega) cl (by omega)) ?_
    rintro _ w47 ⟨a49, c50, rfl, T48⟩
    have H53 : Sat w [restC w (fun _ => False), cellC b2 35 ([(.int .i64 (cl)), (.int .i64 (seq))] : List Value), cellC b6 24 (hc x), cellC b10 24 (hc hash0), cellC r18 134 ([(.slice a49 (((([] : List UInt8) ++ rowB ([99, 111, 109, 109, 105, 116])) ++ intB cl).length) c50)] : List Value), rowC 5 1 (.slice a49 (((([] : List UInt8) ++ rowB ([99, 111, 109, 109, 105, 116])) ++ intB cl).length) c50) (((([] : List UInt8) ++ rowB ([99, 111, 109, 109, 105, 116])) ++ intB cl).length) (((([] : List UInt8) ++ rowB ([99, 111, 109, 109, 105, 116])) ++ intB cl).flatMap encB), txtC (.slice (some ⟨b28, 0, none⟩) 6 6) ([99, 111, 109, 109, 105, 116])] w47 := (Sat.turnL (L' := [cellC r18 134 ([(.slice a49 (((([] : List UInt8) ++ rowB ([99, 111, 109, 109, 105, 116])) ++ intB cl).length) c50)] : List Value), rowC 5 1 (.slice a49 (((([] : List UInt8) ++ rowB ([99, 111, 109, 109, 105, 116])) ++ intB cl).length) c50) (((([] : List UInt8) ++ rowB ([99, 111, 109, 109, 105, 116])) ++ intB cl).length) (((([] : List UInt8) ++ rowB ([99, 111, 109, 109, 105, 116])) ++ intB cl).flatMap encB)]) (R := [restC w (fun _ => False), cellC b2 35 ([(.int .i64 (cl)), (.int .i64 (seq))] : List Value), cellC b6 24 (hc x), cellC b10 24 (hc hash0), txtC (.slice (some ⟨b28, 0, none⟩) 6 6) ([99, 111, 109, 109, 105, 116])]) H44 [4, 5] [0, 1, 2, 3, 6] (by decide) (by kernel_rfl) rfl T48).pick [2, 3, 4, 5, 0, 1, 6] (by decide)
    refine ⟨_, rfl, ?_⟩
    have S54 := H53.pick [0, 1, 2, 3] (by decide)
    refine hK46 _ _ S54 ?_
    clear hK46 K46
    refine h_do 9 rfl (by kernel_rfl) (wants0 rfl) (fun K55 hK55 => ?_)
    have l61 := intB_len seq
    refine d_call (d := 17) rfl (by kernel_rfl) (wInt_any w47 r18 a49 c50 ((([] : List UInt8) ++ rowB ([99, 111, 109, 109, 105, 116])) ++ intB cl) (H53.fin [4, 5] (by decide) rfl) (by simp only [List.length_append, List.length_nil]; omega) seq (by omega)) ?_
    rintro _ w56 ⟨a58, c59, rfl, T57⟩
    have H62 : Sat w [restC w (fun _ => False), cellC b2 35 ([(.int .i64 (cl)), (.int .i64 (seq))] : List Value), cellC b6 24 (hc x), cellC b10 24 (hc hash0), cellC r18 134 ([(.slice a58 ((((([] : List UInt8) ++ rowB ([99, 111, 109, 109, 105, 116])) ++ intB cl) ++ intB seq).length) c59)] : List Value), rowC 5 1 (.slice a58 ((((([] : List UInt8) ++ rowB ([99, 111, 109, 109, 105, 116])) ++ intB cl) ++ intB seq).length) c59) ((((([] : List UInt8) ++ rowB ([99, 111, 109, 109, 105, 116])) ++ intB cl) ++ intB seq).length) ((((([] : List UInt8) ++ rowB ([99, 111, 109, 109, 105, 116])) ++ intB cl) ++ intB seq).flatMap encB), txtC (.slice (some ⟨b28, 0, none⟩) 6 6) ([99, 111, 109, 109, 105, 116])] w56 := (Sat.turnL (L' := [cellC r18 134 ([(.slice a58 ((((([] : List UInt8) ++ rowB ([99, 111, 109, 109, 105, 116])) ++ intB cl) ++ intB seq).length) c59)] : List Value), rowC 5 1 (.slice a58 ((((([] : List UInt8) ++ rowB ([99, 111, 109, 109, 105, 116])) ++ intB cl) ++ intB seq).length) c59) ((((([] : List UInt8) ++ rowB ([99, 111, 109, 109, 105, 116])) ++ intB cl) ++ intB seq).length) ((((([] : List UInt8) ++ rowB ([99, 111, 109, 109, 105, 116])) ++ intB cl) ++ intB seq).flatMap encB)]) (R := [restC w (fun _ => False), cellC b2 35 ([(.int .i64 (cl)), (.int .i64 (seq))] : List Value), cellC b6 24 (hc x), cellC b10 24 (hc hash0), txtC (.slice (some ⟨b28, 0, none⟩) 6 6) ([99, 111, 109, 109, 105, 116])]) H53 [4, 5] [0, 1, 2, 3, 6] (by decide) (by kernel_rfl) rfl T57).pick [2, 3, 4, 5, 0, 1, 6] (by decide)
    refine ⟨_, rfl, ?_⟩
    have S63 := H62.pick [0, 1, 2, 3] (by decide)
    refine hK55 _ _ S63 ?_
    clear hK55 K55
    refine h_val 10 rfl (by kernel_rfl) (by kernel_rfl) (by kernel_rfl) (fun _ _ _ h => h) S63 (wants0 rfl) (d := 7) (v := (.pointer (some ⟨r18, 0, none⟩))) rfl (fun _ H' => (by kernel_rfl)) ?_
    refine h_fin (by kernel_rfl) ?_
    refine then_normal ?_
    refine w_seq ?_
    refine w_lit ?_
    refine wl_pure (wants0 rfl) (d := 18) (v := (.pointer (some ⟨r18, 0, none⟩))) rfl (by kernel_rfl) ?_
    refine wl_pure (wants0 rfl) (d := 19) (v := (.agg ⟨(hc x)⟩)) rfl (e_loadN (vs := (hc x)) rfl (by kernel_rfl) (by kernel_rfl) (by exact Nat.le_of_ble_eq_true (by kernel_rfl)) (H62.at 2 rfl) (by kernel_rfl)) ?_
    refine wl_do (wants0 rfl) (fun K64 hK64 => ?_)
    have l70 := x.len
    refine d_call (d := 20) rfl (by kernel_rfl) (wHash_any w56 r18 a58 c59 (((([] : List UInt8) ++ rowB ([99, 111, 109, 109, 105, 116])) ++ intB cl) ++ intB seq) (H62.fin [4, 5] (by decide) rfl) (by simp only [List.length_append, List.length_nil]; omega) x) ?_
    rintro _ w65 ⟨a67, c68, rfl, T66⟩
    have H71 : Sat w [restC w (fun _ => False), cellC b2 35 ([(.int .i64 (cl)), (.int .i64 (seq))] : List Value), cellC b6 24 (hc x), cellC b10 24 (hc hash0), cellC r18 134 ([(.slice a67 (((((([] : List UInt8) ++ rowB ([99, 111, 109, 109, 105, 116])) ++ intB cl) ++ intB seq) ++ x.l).length) c68)] : List Value), rowC 5 1 (.slice a67 (((((([] : List UInt8) ++ rowB ([99, 111, 109, 109, 105, 116])) ++ intB cl) ++ intB seq) ++ x.l).length) c68) (((((([] : List UInt8) ++ rowB ([99, 111, 109, 109, 105, 116])) ++ intB cl) ++ intB seq) ++ x.l).length) (((((([] : List UInt8) ++ rowB ([99, 111, 109, 109, 105, 116])) ++ intB cl) ++ intB seq) ++ x.l).flatMap encB), txtC (.slice (some ⟨b28, 0, none⟩) 6 6) ([99, 111, 109, 109, 105, 116])] w65 := (Sat.turnL (L' := [cellC r18 134 ([(.slice a67 (((((([] : List UInt8) ++ rowB ([99, 111, 109, 109, 105, 116])) ++ intB cl) ++ intB seq) ++ x.l).length) c68)] : List Value), rowC 5 1 (.slice a67 (((((([] : List UInt8) ++ rowB ([99, 111, 109, 109, 105, 116])) ++ intB cl) ++ intB seq) ++ x.l).length) c68) (((((([] : List UInt8) ++ rowB ([99, 111, 109, 109, 105, 116])) ++ intB cl) ++ intB seq) ++ x.l).length) (((((([] : List UInt8) ++ rowB ([99, 111, 109, 109, 105, 116])) ++ intB cl) ++ intB seq) ++ x.l).flatMap encB)]) (R := [restC w (fun _ => False), cellC b2 35 ([(.int .i64 (cl)), (.int .i64 (seq))] : List Value), cellC b6 24 (hc x), cellC b10 24 (hc hash0), txtC (.slice (some ⟨b28, 0, none⟩) 6 6) ([99, 111, 109, 109, 105, 116])]) H62 [4, 5] [0, 1, 2, 3, 6] (by decide) (by kernel_rfl) rfl T66).pick [2, 3, 4, 5, 0, 1, 6] (by decide)
    refine ⟨_, rfl, ?_⟩
    refine hK64 _ _ ?_
    clear hK64 K64
    refine wl_pure (wants0 rfl) (d := 21) (v := (.slice pa p.length pc)) rfl (by kernel_rfl) ?_
    refine wl_do (wants0 rfl) (fun K72 hK72 => ?_)
    have l78 := rowB_len p
    refine d_call (d := 22) rfl (by kernel_rfl) (wRowL_any w65 r18 a67 c68 ((((([] : List UInt8) ++ rowB ([99, 111, 109, 109, 105, 116])) ++ intB cl) ++ intB seq) ++ x.l) (H71.fin [4, 5] (by decide) rfl) (by simp only [List.length_append, List.length_nil]; omega) pa pc p (ListAt.now H71 0 rfl hp) (list_off encB_len (by decide) H71 [4, 5] 0 rfl rfl (by decide) hp) (by omega)) ?_
    rintro _ w73 ⟨a75, c76, rfl, T74⟩
    have H79 : Sat w [restC w (fun _ => False), cellC b2 35 ([(.int .i64 (cl)), (.int .i64 (seq))] : List Value), cellC b6 24 (hc x), cellC b10 24 (hc hash0), cellC r18 134 ([(.slice a75 ((((((([] : List UInt8) ++ rowB ([99, 111, 109, 109, 105, 116])) ++ intB cl) ++ intB seq) ++ x.l) ++ rowB p).length) c76)] : List Value), rowC 5 1 (.slice a75 ((((((([] : List UInt8) ++ rowB ([99, 111, 109, 109, 105, 116])) ++ intB cl) ++ intB seq) ++ x.l) ++ rowB p).length) c76) ((((((([] : List UInt8) ++ rowB ([99, 111, 109, 109, 105, 116])) ++ intB cl) ++ intB seq) ++ x.l) ++ rowB p).length) ((((((([] : List UInt8) ++ rowB ([99, 111, 109, 109, 105, 116])) ++ intB cl) ++ intB seq) ++ x.l) ++ rowB p).flatMap encB), txtC (.slice (some ⟨b28, 0, none⟩) 6 6) ([99, 111, 109, 109, 105, 116])] w73 := (Sat.turnL (L' := [cellC r18 134 ([(.slice a75 ((((((([] : List UInt8) ++ rowB ([99, 111, 109, 109, 105, 116])) ++ intB cl) ++ intB seq) ++ x.l) ++ rowB p).length) c76)] : List Value), rowC 5 1 (.slice a75 ((((((([] : List UInt8) ++ rowB ([99, 111, 109, 109, 105, 116])) ++ intB cl) ++ intB seq) ++ x.l) ++ rowB p).length) c76) ((((((([] : List UInt8) ++ rowB ([99, 111, 109, 109, 105, 116])) ++ intB cl) ++ intB seq) ++ x.l) ++ rowB p).length) ((((((([] : List UInt8) ++ rowB ([99, 111, 109, 109, 105, 116])) ++ intB cl) ++ intB seq) ++ x.l) ++ rowB p).flatMap encB)]) (R := [restC w (fun _ => False), cellC b2 35 ([(.int .i64 (cl)), (.int .i64 (seq))] : List Value), cellC b6 24 (hc x), cellC b10 24 (hc hash0), txtC (.slice (some ⟨b28, 0, none⟩) 6 6) ([99, 111, 109, 109, 105, 116])]) H71 [4, 5] [0, 1, 2, 3, 6] (by decide) (by kernel_rfl) rfl T74).pick [2, 3, 4, 5, 0, 1, 6] (by decide)
    refine ⟨_, rfl, ?_⟩
    refine hK72 _ _ ?_
    clear hK72 K72
    refine wl_do (wants0 rfl) (fun K80 hK80 => ?_)
    refine d_call (d := 23) rfl (by kernel_rfl) (wBytes_any w73 r18 a75 c76 (((((([] : List UInt8) ++ rowB ([99, 111, 109, 109, 105, 116])) ++ intB cl) ++ intB seq) ++ x.l) ++ rowB p) (H79.fin [4, 5] (by decide) rfl) (by simp only [List.length_append, List.length_nil]; omega)) ?_
    rintro _ w81 ⟨u82, rfl, T83⟩
    have H84 : Sat w [restC w (fun _ => False), cellC b2 35 ([(.int .i64 (cl)), (.int .i64 (seq))] : List Value), cellC b6 24 (hc x), cellC b10 24 (hc hash0), cellC r18 134 ([(.slice a75 ((((((([] : List UInt8) ++ rowB ([99, 111, 109, 109, 105, 116])) ++ intB cl) ++ intB seq) ++ x.l) ++ rowB p).length) c76)] : List Value), rowC 5 1 (.slice a75 ((((((([] : List UInt8) ++ rowB ([99, 111, 109, 109, 105, 116])) ++ intB cl) ++ intB seq) ++ x.l) ++ rowB p).length) c76) ((((((([] : List UInt8) ++ rowB ([99, 111, 109, 109, 105, 116])) ++ intB cl) ++ intB seq) ++ x.l) ++ rowB p).length) ((((((([] : List UInt8) ++ rowB ([99, 111, 109, 109, 105, 116])) ++ intB cl) ++ intB seq) ++ x.l) ++ rowB p).flatMap encB), txtC (.slice (some ⟨b28, 0, none⟩) 6 6) ([99, 111, 109, 109, 105, 116]), rowC 5 1 u82 ((((((([] : List UInt8) ++ rowB ([99, 111, 109, 109, 105, 116])) ++ intB cl) ++ intB seq) ++ x.l) ++ rowB p).length) ((((((([] : List UInt8) ++ rowB ([99, 111, 109, 109, 105, 116])) ++ intB cl) ++ intB seq) ++ x.l) ++ rowB p).flatMap encB)] w81 := (Sat.turnL (L' := [cellC r18 134 ([(.slice a75 ((((((([] : List UInt8) ++ rowB ([99, 111, 109, 109, 105, 116])) ++ intB cl) ++ intB seq) ++ x.l) ++ rowB p).length) c76)] : List Value), rowC 5 1 (.slice a75 ((((((([] : List UInt8) ++ rowB ([99, 111, 109, 109, 105, 116])) ++ intB cl) ++ intB seq) ++ x.l) ++ rowB p).length) c76) ((((((([] : List UInt8) ++ rowB ([99, 111, 109, 109, 105, 116])) ++ intB cl) ++ intB seq) ++ x.l) ++ rowB p).length) ((((((([] : List UInt8) ++ rowB ([99, 111, 109, 109, 105, 116])) ++ intB cl) ++ intB seq) ++ x.l) ++ rowB p).flatMap encB), rowC 5 1 u82 ((((((([] : List UInt8) ++ rowB ([99, 111, 109, 109, 105, 116])) ++ intB cl) ++ intB seq) ++ x.l) ++ rowB p).length) ((((((([] : List UInt8) ++ rowB ([99, 111, 109, 109, 105, 116])) ++ intB cl) ++ intB seq) ++ x.l) ++ rowB p).flatMap encB)]) (R := [restC w (fun _ => False), cellC b2 35 ([(.int .i64 (cl)), (.int .i64 (seq))] : List Value), cellC b6 24 (hc x), cellC b10 24 (hc hash0), txtC (.slice (some ⟨b28, 0, none⟩) 6 6) ([99, 111, 109, 109, 105, 116])]) H79 [4, 5] [0, 1, 2, 3, 6] (by decide) (by kernel_rfl) rfl T83).pick [3, 4, 5, 6, 0, 1, 7, 2] (by decide)
    obtain ⟨a85, c86, rfl⟩ := ownsRow_shape (H84.at 7 rfl)
    refine ⟨_, rfl, ?_⟩
    refine hK80 _ _ ?_
    clear hK80 K80
    refine wl_do (wants0 rfl) (fun K87 hK87 => ?_)
    refine d_call (d := 24) rfl (by kernel_rfl) (pSum_any w81 a85 c86 (((((([] : List UInt8) ++ rowB ([99, 111, 109, 109, 105, 116])) ++ intB cl) ++ intB seq) ++ x.l) ++ rowB p) (ListAt.row (enc := encB) (sz := 1) encB_len (by decide) (H84.at 7 rfl)) (ofT_lim cl seq x p hlp)) ?_
    rintro _ w88 ⟨rfl, u90⟩
    have H89 := H84.keepU u90
    refine ⟨_, rfl, ?_⟩
    refine hK87 _ _ ?_
    clear hK87 K87
    refine wl_do (wants0 rfl) (fun K91 hK91 => ?_)
    refine d_storeX (vs := (hc (shaR (((((([] : List UInt8) ++ rowB ([99, 111, 109, 109, 105, 116])) ++ intB cl) ++ intB seq) ++ x.l) ++ rowB p)))) (cs' := (hc (shaR (((((([] : List UInt8) ++ rowB ([99, 111, 109, 109, 105, 116])) ++ intB cl) ++ intB seq) ++ x.l) ++ rowB p)))) rfl H89 3 rfl rfl rfl rfl (by kernel_rfl) (Nat.le_of_ble_eq_true (by kernel_rfl)) (Nat.le_of_ble_eq_true (by kernel_rfl)) (by kernel_rfl) (by kernel_rfl) ?_
    intro w92 (H93 : Sat w [restC w (fun _ => False), cellC b2 35 ([(.int .i64 (cl)), (.int .i64 (seq))] : List Value), cellC b6 24 (hc x), cellC b10 24 (hc (shaR (((((([] : List UInt8) ++ rowB ([99, 111, 109, 109, 105, 116])) ++ intB cl) ++ intB seq) ++ x.l) ++ rowB p))), cellC r18 134 ([(.slice a75 ((((((([] : List UInt8) ++ rowB ([99, 111, 109, 109, 105, 116])) ++ intB cl) ++ intB seq) ++ x.l) ++ rowB p).length) c76)] : List Value), rowC 5 1 (.slice a75 ((((((([] : List UInt8) ++ rowB ([99, 111, 109, 109, 105, 116])) ++ intB cl) ++ intB seq) ++ x.l) ++ rowB p).length) c76) ((((((([] : List UInt8) ++ rowB ([99, 111, 109, 109, 105, 116])) ++ intB cl) ++ intB seq) ++ x.l) ++ rowB p).length) ((((((([] : List UInt8) ++ rowB ([99, 111, 109, 109, 105, 116])) ++ intB cl) ++ intB seq) ++ x.l) ++ rowB p).flatMap encB), txtC (.slice (some ⟨b28, 0, none⟩) 6 6) ([99, 111, 109, 109, 105, 116]), rowC 5 1 (.slice a85 (((((([] : List UInt8) ++ rowB ([99, 111, 109, 109, 105, 116])) ++ intB cl) ++ intB seq) ++ x.l) ++ rowB p).length c86) ((((((([] : List UInt8) ++ rowB ([99, 111, 109, 109, 105, 116])) ++ intB cl) ++ intB seq) ++ x.l) ++ rowB p).length) ((((((([] : List UInt8) ++ rowB ([99, 111, 109, 109, 105, 116])) ++ intB cl) ++ intB seq) ++ x.l) ++ rowB p).flatMap encB)] w92)
    refine hK91 _ _ ?_
    clear hK91 K91
    refine w_nil ?_
    refine then_normal ?_
    refine w_ret ?_
    refine end1 rfl (res_cellN (vs := (hc (shaR (((((([] : List UInt8) ++ rowB ([99, 111, 109, 109, 105, 116])) ++ intB cl) ++ intB seq) ++ x.l) ++ rowB p)))) rfl (by kernel_rfl) (by kernel_rfl) (by exact Nat.le_of_ble_eq_true (by kernel_rfl)) (H93.at 3 rfl) (by kernel_rfl)) ?_
    exact ⟨by rw [ofT_app], H93.upd 0 rfl [] (fun _ h => h.elim)⟩
  · refine d_buildSlice (e := 5) (size := 1) (bytes := 1) (z := (.int .u8 (0))) (pvs := [(0, (.int .u8 (99))), (1, (.int .u8 (111))), (2, (.int .u8 (109))), (3, (.int .u8 (109))), (4, (.int .u8 (105))), (5, (.int .u8 (116)))]) (vs := ([(.int .u8 (99)), (.int .u8 (111)), (.int .u8 (109)), (.int .u8 (109)), (.int .u8 (105)), (.int .u8 (116))] : List Value)) rfl H14 (by kernel_rfl) (by kernel_rfl) (by kernel_rfl) (by kernel_rfl) (by kernel_rfl) rfl rfl ?_
    intro b95 w96 (H97 : Sat w [restC w (fun _ => False), cellC b2 35 ([(.int .i64 (cl)), (.int .i64 (seq))] : List Value), cellC b6 24 (hc x), cellC b10 24 (hc hash0), rowC 5 1 (.slice (some ⟨b95, 0, none⟩) 6 6) 6 ([(.int .u8 (99)), (.int .u8 (111)), (.int .u8 (109)), (.int .u8 (109)), (.int .u8 (105)), (.int .u8 (116))] : List Value)] w96)
    have H98 : Sat w [restC w (fun _ => False), cellC b2 35 ([(.int .i64 (cl)), (.int .i64 (seq))] : List Value), cellC b6 24 (hc x), cellC b10 24 (hc hash0), rowC 5 1 (.slice (some ⟨b95, 0, none⟩) 6 6) 6 ([99, 111, 109, 109, 105, 116].flatMap encB)] w96 := H97.cast (by rw [show (([(.int .u8 (99)), (.int .u8 (111)), (.int .u8 (109)), (.int .u8 (109)), (.int .u8 (105)), (.int .u8 (116))] : List Value) : List Value) = [99, 111, 109, 109, 105, 116].flatMap encB from rfl])
    have S99 := H98.pick [0, 1, 2, 3] (by decide)
    refine hK16 _ _ S99 ?_
    clear hK16 K16
    refine h_do2 0 2 rfl rfl (by kernel_rfl) (wants0 rfl) (wants0 rfl) (fun K100 hK100 => ?_) (fun K100 hK100 => ?_)
    · refine d_call (d := 8) rfl (by kernel_rfl) (wNew_any w96) ?_
      rintro _ w101 ⟨r102, a103, c104, rfl, k105, p106, q107⟩
      have H108 : Sat w [restC w (fun _ => False), cellC b2 35 ([(.int .i64 (cl)), (.int .i64 (seq))] : List Value), cellC b6 24 (hc x), cellC b10 24 (hc hash0), rowC 5 1 (.slice (some ⟨b95, 0, none⟩) 6 6) 6 ([99, 111, 109, 109, 105, 116].flatMap encB), sepC (wrL r102 a103 c104 ([] : List UInt8))] w101 := H98.addU p106 k105 q107
      have H109 : Sat w [restC w (fun _ => False), cellC b2 35 ([(.int .i64 (cl)), (.int .i64 (seq))] : List Value), cellC b6 24 (hc x), cellC b10 24 (hc hash0), rowC 5 1 (.slice (some ⟨b95, 0, none⟩) 6 6) 6 ([99, 111, 109, 109, 105, 116].flatMap encB), cellC r102 134 ([(.slice a103 (([] : List UInt8).length) c104)] : List Value), rowC 5 1 (.slice a103 (([] : List UInt8).length) c104) (([] : List UInt8).length) (([] : List UInt8).flatMap encB)] w101 := H108.open 5 rfl
      refine ⟨_, rfl, ?_⟩
      have S110 := H109.pick [0, 1, 2, 3] (by decide)
      refine hK100 _ _ S110 ?_
      clear hK100 K100
      refine h_do 2 rfl (by kernel_rfl) (wants0 rfl) (fun K111 hK111 => ?_)
      refine d_convMark (e := 5) (s := [99, 111, 109, 109, 105, 116]) rfl H109 4 rfl (by kernel_rfl) (by kernel_rfl) rfl ?_
      intro w112 (H113 : Sat w [restC w (fun _ => False), cellC b2 35 ([(.int .i64 (cl)), (.int .i64 (seq))] : List Value), cellC b6 24 (hc x), cellC b10 24 (hc hash0), txtC (.slice (some ⟨b95, 0, none⟩) 6 6) ([99, 111, 109, 109, 105, 116]), cellC r102 134 ([(.slice a103 (([] : List UInt8).length) c104)] : List Value), rowC 5 1 (.slice a103 (([] : List UInt8).length) c104) (([] : List UInt8).length) (([] : List UInt8).flatMap encB)] w112)
      have S114 := H113.pick [0, 1, 2, 3] (by decide)
      refine hK111 _ _ S114 ?_
      clear hK111 K111
      refine h_do 3 rfl (by kernel_rfl) (wants0 rfl) (fun K115 hK115 => ?_)
      have l121 := (show (rowB [99, 111, 109, 109, 105, 116]).length ≤ 16 from rowB_len _)
      refine d_call (d := 11) rfl (by kernel_rfl) (wRowL_any w112 r102 a103 c104 ([] : List UInt8) (H113.fin [5, 6] (by decide) rfl) (by simp) (some ⟨b95, 0, none⟩) 6 ([99, 111, 109, 109, 105, 116]) (ListAt.ofTxt (H113.at 4 rfl)) (off_txt (fun b hb => H113.offP [5, 6] 4 rfl rfl (by decide) hb)) (by first | omega | simp)) ?_
      rintro _ w116 ⟨a118, c119, rfl, T117⟩
      have H122 : Sat w [restC w (fun _ => False), cellC b2 35 ([(.int .i64 (cl)), (.int .i64 (seq))] : List Value), cellC b6 24 (hc x), cellC b10 24 (hc hash0), txtC (.slice (some ⟨b95, 0, none⟩) 6 6) ([99, 111, 109, 109, 105, 116]), cellC r102 134 ([(.slice a118 ((([] : List UInt8) ++ rowB ([99, 111, 109, 109, 105, 116])).length) c119)] : List Value), rowC 5 1 (.slice a118 ((([] : List UInt8) ++ rowB ([99, 111, 109, 109, 105, 116])).length) c119) ((([] : List UInt8) ++ rowB ([99, 111, 109, 109, 105, 116])).length) ((([] : List UInt8) ++ rowB ([99, 111, 109, 109, 105, 116])).flatMap encB)] w116 := (Sat.turnL (L' := [cellC r102 134 ([(.slice a118 ((([] : List UInt8) ++ rowB ([99, 111, 109, 109, 105, 116])).length) c119)] : List Value), rowC 5 1 (.slice a118 ((([] : List UInt8) ++ rowB ([99, 111, 109, 109, 105, 116])).length) c119) ((([] : List UInt8) ++ rowB ([99, 111, 109, 109, 105, 116])).length) ((([] : List UInt8) ++ rowB ([99, 111, 109, 109, 105, 116])).flatMap encB)]) (R := [restC w (fun _ => False), cellC b2 35 ([(.int .i64 (cl)), (.int .i64 (seq))] : List Value), cellC b6 24 (hc x), cellC b10 24 (hc hash0), txtC (.slice (some ⟨b95, 0, none⟩) 6 6) ([99, 111, 109, 109, 105, 116])]) H113 [5, 6] [0, 1, 2, 3, 4] (by decide) (by kernel_rfl) rfl T117).pick [2, 3, 4, 5, 6, 0, 1] (by decide)
      refine ⟨_, rfl, ?_⟩
      have S123 := H122.pick [0, 1, 2, 3] (by decide)
      refine hK115 _ _ S123 ?_
      clear hK115 K115
      refine h_do 6 rfl (by kernel_rfl) (wants0 rfl) (fun K124 hK124 => ?_)
      have l130 := intB_len cl
      refine d_call (d := 14) rfl (by kernel_rfl) (wInt_any w116 r102 a118 c119 (([] : List UInt8) ++ rowB ([99, 111, 109, 109, 105, 116])) (H122.fin [5, 6] (by decide) rfl) (by simp only [List.length_append, List.length_nil]; omega) cl (by omega)) ?_
      rintro _ w125 ⟨a127, c128, rfl, T126⟩
      have H131 : Sat w [restC w (fun _ => False), cellC b2 35 ([(.int .i64 (cl)), (.int .i64 (seq))] : List Value), cellC b6 24 (hc x), cellC b10 24 (hc hash0), txtC (.slice (some ⟨b95, 0, none⟩) 6 6) ([99, 111, 109, 109, 105, 116]), cellC r102 134 ([(.slice a127 (((([] : List UInt8) ++ rowB ([99, 111, 109, 109, 105, 116])) ++ intB cl).length) c128)] : List Value), rowC 5 1 (.slice a127 (((([] : List UInt8) ++ rowB ([99, 111, 109, 109, 105, 116])) ++ intB cl).length) c128) (((([] : List UInt8) ++ rowB ([99, 111, 109, 109, 105, 116])) ++ intB cl).length) (((([] : List UInt8) ++ rowB ([99, 111, 109, 109, 105, 116])) ++ intB cl).flatMap encB)] w125 := (Sat.turnL (L' := [cellC r102 134 ([(.slice a127 (((([] : List UInt8) ++ rowB ([99, 111, 109, 109, 105, 116])) ++ intB cl).length) c128)] : List Value), rowC 5 1 (.slice a127 (((([] : List UInt8) ++ rowB ([99, 111, 109, 109, 105, 116])) ++ intB cl).length) c128) (((([] : List UInt8) ++ rowB ([99, 111, 109, 109, 105, 116])) ++ intB cl).length) (((([] : List UInt8) ++ rowB ([99, 111, 109, 109, 105, 116])) ++ intB cl).flatMap encB)]) (R := [restC w (fun _ => False), cellC b2 35 ([(.int .i64 (cl)), (.int .i64 (seq))] : List Value), cellC b6 24 (hc x), cellC b10 24 (hc hash0), txtC (.slice (some ⟨b95, 0, none⟩) 6 6) ([99, 111, 109, 109, 105, 116])]) H122 [5, 6] [0, 1, 2, 3, 4] (by decide) (by kernel_rfl) rfl T126).pick [2, 3, 4, 5, 6, 0, 1] (by decide)
      refine ⟨_, rfl, ?_⟩
      have S132 := H131.pick [0, 1, 2, 3] (by decide)
      refine hK124 _ _ S132 ?_
      clear hK124 K124
      refine h_do 9 rfl (by kernel_rfl) (wants0 rfl) (fun K133 hK133 => ?_)
      have l139 := intB_len seq
      refine d_call (d := 17) rfl (by kernel_rfl) (wInt_any w125 r102 a127 c128 ((([] : List UInt8) ++ rowB ([99, 111, 109, 109, 105, 116])) ++ intB cl) (H131.fin [5, 6] (by decide) rfl) (by simp only [List.length_append, List.length_nil]; omega) seq (by omega)) ?_
      rintro _ w134 ⟨a136, c137, rfl, T135⟩
      have H140 : Sat w [restC w (fun _ => False), cellC b2 35 ([(.int .i64 (cl)), (.int .i64 (seq))] : List Value), cellC b6 24 (hc x), cellC b10 24 (hc hash0), txtC (.slice (some ⟨b95, 0, none⟩) 6 6) ([99, 111, 109, 109, 105, 116]), cellC r102 134 ([(.slice a136 ((((([] : List UInt8) ++ rowB ([99, 111, 109, 109, 105, 116])) ++ intB cl) ++ intB seq).length) c137)] : List Value), rowC 5 1 (.slice a136 ((((([] : List UInt8) ++ rowB ([99, 111, 109, 109, 105, 116])) ++ intB cl) ++ intB seq).length) c137) ((((([] : List UInt8) ++ rowB ([99, 111, 109, 109, 105, 116])) ++ intB cl) ++ intB seq).length) ((((([] : List UInt8) ++ rowB ([99, 111, 109, 109, 105, 116])) ++ intB cl) ++ intB seq).flatMap encB)] w134 := (Sat.turnL (L' := [cellC r102 134 ([(.slice a136 ((((([] : List UInt8) ++ rowB ([99, 111, 109, 109, 105, 116])) ++ intB cl) ++ intB seq).length) c137)] : List Value), rowC 5 1 (.slice a136 ((((([] : List UInt8) ++ rowB ([99, 111, 109, 109, 105, 116])) ++ intB cl) ++ intB seq).length) c137) ((((([] : List UInt8) ++ rowB ([99, 111, 109, 109, 105, 116])) ++ intB cl) ++ intB seq).length) ((((([] : List UInt8) ++ rowB ([99, 111, 109, 109, 105, 116])) ++ intB cl) ++ intB seq).flatMap encB)]) (R := [restC w (fun _ => False), cellC b2 35 ([(.int .i64 (cl)), (.int .i64 (seq))] : List Value), cellC b6 24 (hc x), cellC b10 24 (hc hash0), txtC (.slice (some ⟨b95, 0, none⟩) 6 6) ([99, 111, 109, 109, 105, 116])]) H131 [5, 6] [0, 1, 2, 3, 4] (by decide) (by kernel_rfl) rfl T135).pick [2, 3, 4, 5, 6, 0, 1] (by decide)
      refine ⟨_, rfl, ?_⟩
      have S141 := H140.pick [0, 1, 2, 3] (by decide)
      refine hK133 _ _ S141 ?_
      clear hK133 K133
      refine h_val 10 rfl (by kernel_rfl) (by kernel_rfl) (by kernel_rfl) (fun _ _ _ h => h) S141 (wants0 rfl) (d := 7) (v := (.pointer (some ⟨r102, 0, none⟩))) rfl (fun _ H' => (by kernel_rfl)) ?_
      refine h_fin (by kernel_rfl) ?_
      refine then_normal ?_
      refine w_seq ?_
      refine w_lit ?_
      refine wl_pure (wants0 rfl) (d := 18) (v := (.pointer (some ⟨r102, 0, none⟩))) rfl (by kernel_rfl) ?_
      refine wl_pure (wants0 rfl) (d := 19) (v := (.agg ⟨(hc x)⟩)) rfl (e_loadN (vs := (hc x)) rfl (by kernel_rfl) (by kernel_rfl) (by exact Nat.le_of_ble_eq_true (by kernel_rfl)) (H140.at 2 rfl) (by kernel_rfl)) ?_
      refine wl_do (wants0 rfl) (fun K142 hK142 => ?_)
      have l148 := x.len
      refine d_call (d := 20) rfl (by kernel_rfl) (wHash_any w134 r102 a136 c137 (((([] : List UInt8) ++ rowB ([99, 111, 109, 109, 105, 116])) ++ intB cl) ++ intB seq) (H140.fin [5, 6] (by decide) rfl) (by simp only [List.length_append, List.length_nil]; omega) x) ?_
      rintro _ w143 ⟨a145, c146, rfl, T144⟩
      have H149 : Sat w [restC w (fun _ => False), cellC b2 35 ([(.int .i64 (cl)), (.int .i64 (seq))] : List Value), cellC b6 24 (hc x), cellC b10 24 (hc hash0), txtC (.slice (some ⟨b95, 0, none⟩) 6 6) ([99, 111, 109, 109, 105, 116]), cellC r102 134 ([(.slice a145 (((((([] : List UInt8) ++ rowB ([99, 111, 109, 109, 105, 116])) ++ intB cl) ++ intB seq) ++ x.l).length) c146)] : List Value), rowC 5 1 (.slice a145 (((((([] : List UInt8) ++ rowB ([99, 111, 109, 109, 105, 116])) ++ intB cl) ++ intB seq) ++ x.l).length) c146) (((((([] : List UInt8) ++ rowB ([99, 111, 109, 109, 105, 116])) ++ intB cl) ++ intB seq) ++ x.l).length) (((((([] : List UInt8) ++ rowB ([99, 111, 109, 109, 105, 116])) ++ intB cl) ++ intB seq) ++ x.l).flatMap encB)] w143 := (Sat.turnL (L' := [cellC r102 134 ([(.slice a145 (((((([] : List UInt8) ++ rowB ([99, 111, 109, 109, 105, 116])) ++ intB cl) ++ intB seq) ++ x.l).length) c146)] : List Value), rowC 5 1 (.slice a145 (((((([] : List UInt8) ++ rowB ([99, 111, 109, 109, 105, 116])) ++ intB cl) ++ intB seq) ++ x.l).length) c146) (((((([] : List UInt8) ++ rowB ([99, 111, 109, 109, 105, 116])) ++ intB cl) ++ intB seq) ++ x.l).length) (((((([] : List UInt8) ++ rowB ([99, 111, 109, 109, 105, 116])) ++ intB cl) ++ intB seq) ++ x.l).flatMap encB)]) (R := [restC w (fun _ => False), cellC b2 35 ([(.int .i64 (cl)), (.int .i64 (seq))] : List Value), cellC b6 24 (hc x), cellC b10 24 (hc hash0), txtC (.slice (some ⟨b95, 0, none⟩) 6 6) ([99, 111, 109, 109, 105, 116])]) H140 [5, 6] [0, 1, 2, 3, 4] (by decide) (by kernel_rfl) rfl T144).pick [2, 3, 4, 5, 6, 0, 1] (by decide)
      refine ⟨_, rfl, ?_⟩
      refine hK142 _ _ ?_
      clear hK142 K142
      refine wl_pure (wants0 rfl) (d := 21) (v := (.slice pa p.length pc)) rfl (by kernel_rfl) ?_
      refine wl_do (wants0 rfl) (fun K150 hK150 => ?_)
      have l156 := rowB_len p
      refine d_call (d := 22) rfl (by kernel_rfl) (wRowL_any w143 r102 a145 c146 ((((([] : List UInt8) ++ rowB ([99, 111, 109, 109, 105, 116])) ++ intB cl) ++ intB seq) ++ x.l) (H149.fin [5, 6] (by decide) rfl) (by simp only [List.length_append, List.length_nil]; omega) pa pc p (ListAt.now H149 0 rfl hp) (list_off encB_len (by decide) H149 [5, 6] 0 rfl rfl (by decide) hp) (by omega)) ?_
      rintro _ w151 ⟨a153, c154, rfl, T152⟩
      have H157 : Sat w [restC w (fun _ => False), cellC b2 35 ([(.int .i64 (cl)), (.int .i64 (seq))] : List Value), cellC b6 24 (hc x), cellC b10 24 (hc hash0), txtC (.slice (some ⟨b95, 0, none⟩) 6 6) ([99, 111, 109, 109, 105, 116]), cellC r102 134 ([(.slice a153 ((((((([] : List UInt8) ++ rowB ([99, 111, 109, 109, 105, 116])) ++ intB cl) ++ intB seq) ++ x.l) ++ rowB p).length) c154)] : List Value), rowC 5 1 (.slice a153 ((((((([] : List UInt8) ++ rowB ([99, 111, 109, 109, 105, 116])) ++ intB cl) ++ intB seq) ++ x.l) ++ rowB p).length) c154) ((((((([] : List UInt8) ++ rowB ([99, 111, 109, 109, 105, 116])) ++ intB cl) ++ intB seq) ++ x.l) ++ rowB p).length) ((((((([] : List UInt8) ++ rowB ([99, 111, 109, 109, 105, 116])) ++ intB cl) ++ intB seq) ++ x.l) ++ rowB p).flatMap encB)] w151 := (Sat.turnL (L' := [cellC r102 134 ([(.slice a153 ((((((([] : List UInt8) ++ rowB ([99, 111, 109, 109, 105, 116])) ++ intB cl) ++ intB seq) ++ x.l) ++ rowB p).length) c154)] : List Value), rowC 5 1 (.slice a153 ((((((([] : List UInt8) ++ rowB ([99, 111, 109, 109, 105, 116])) ++ intB cl) ++ intB seq) ++ x.l) ++ rowB p).length) c154) ((((((([] : List UInt8) ++ rowB ([99, 111, 109, 109, 105, 116])) ++ intB cl) ++ intB seq) ++ x.l) ++ rowB p).length) ((((((([] : List UInt8) ++ rowB ([99, 111, 109, 109, 105, 116])) ++ intB cl) ++ intB seq) ++ x.l) ++ rowB p).flatMap encB)]) (R := [restC w (fun _ => False), cellC b2 35 ([(.int .i64 (cl)), (.int .i64 (seq))] : List Value), cellC b6 24 (hc x), cellC b10 24 (hc hash0), txtC (.slice (some ⟨b95, 0, none⟩) 6 6) ([99, 111, 109, 109, 105, 116])]) H149 [5, 6] [0, 1, 2, 3, 4] (by decide) (by kernel_rfl) rfl T152).pick [2, 3, 4, 5, 6, 0, 1] (by decide)
      refine ⟨_, rfl, ?_⟩
      refine hK150 _ _ ?_
      clear hK150 K150
      refine wl_do (wants0 rfl) (fun K158 hK158 => ?_)
      refine d_call (d := 23) rfl (by kernel_rfl) (wBytes_any w151 r102 a153 c154 (((((([] : List UInt8) ++ rowB ([99, 111, 109, 109, 105, 116])) ++ intB cl) ++ intB seq) ++ x.l) ++ rowB p) (H157.fin [5, 6] (by decide) rfl) (by simp only [List.length_append, List.length_nil]; omega)) ?_
      rintro _ w159 ⟨u160, rfl, T161⟩
      have H162 : Sat w [restC w (fun _ => False), cellC b2 35 ([(.int .i64 (cl)), (.int .i64 (seq))] : List Value), cellC b6 24 (hc x), cellC b10 24 (hc hash0), txtC (.slice (some ⟨b95, 0, none⟩) 6 6) ([99, 111, 109, 109, 105, 116]), cellC r102 134 ([(.slice a153 ((((((([] : List UInt8) ++ rowB ([99, 111, 109, 109, 105, 116])) ++ intB cl) ++ intB seq) ++ x.l) ++ rowB p).length) c154)] : List Value), rowC 5 1 (.slice a153 ((((((([] : List UInt8) ++ rowB ([99, 111, 109, 109, 105, 116])) ++ intB cl) ++ intB seq) ++ x.l) ++ rowB p).length) c154) ((((((([] : List UInt8) ++ rowB ([99, 111, 109, 109, 105, 116])) ++ intB cl) ++ intB seq) ++ x.l) ++ rowB p).length) ((((((([] : List UInt8) ++ rowB ([99, 111, 109, 109, 105, 116])) ++ intB cl) ++ intB seq) ++ x.l) ++ rowB p).flatMap encB), rowC 5 1 u160 ((((((([] : List UInt8) ++ rowB ([99, 111, 109, 109, 105, 116])) ++ intB cl) ++ intB seq) ++ x.l) ++ rowB p).length) ((((((([] : List UInt8) ++ rowB ([99, 111, 109, 109, 105, 116])) ++ intB cl) ++ intB seq) ++ x.l) ++ rowB p).flatMap encB)] w159 := (Sat.turnL (L' := [cellC r102 134 ([(.slice a153 ((((((([] : List UInt8) ++ rowB ([99, 111, 109, 109, 105, 116])) ++ intB cl) ++ intB seq) ++ x.l) ++ rowB p).length) c154)] : List Value), rowC 5 1 (.slice a153 ((((((([] : List UInt8) ++ rowB ([99, 111, 109, 109, 105, 116])) ++ intB cl) ++ intB seq) ++ x.l) ++ rowB p).length) c154) ((((((([] : List UInt8) ++ rowB ([99, 111, 109, 109, 105, 116])) ++ intB cl) ++ intB seq) ++ x.l) ++ rowB p).length) ((((((([] : List UInt8) ++ rowB ([99, 111, 109, 109, 105, 116])) ++ intB cl) ++ intB seq) ++ x.l) ++ rowB p).flatMap encB), rowC 5 1 u160 ((((((([] : List UInt8) ++ rowB ([99, 111, 109, 109, 105, 116])) ++ intB cl) ++ intB seq) ++ x.l) ++ rowB p).length) ((((((([] : List UInt8) ++ rowB ([99, 111, 109, 109, 105, 116])) ++ intB cl) ++ intB seq) ++ x.l) ++ rowB p).flatMap encB)]) (R := [restC w (fun _ => False), cellC b2 35 ([(.int .i64 (cl)), (.int .i64 (seq))] : List Value), cellC b6 24 (hc x), cellC b10 24 (hc hash0), txtC (.slice (some ⟨b95, 0, none⟩) 6 6) ([99, 111, 109, 109, 105, 116])]) H157 [5, 6] [0, 1, 2, 3, 4] (by decide) (by kernel_rfl) rfl T161).pick [3, 4, 5, 6, 7, 0, 1, 2] (by decide)
      obtain ⟨a163, c164, rfl⟩ := ownsRow_shape (H162.at 7 rfl)
      refine ⟨_, rfl, ?_⟩
      refine hK158 _ _ ?_
      clear hK158 K158
      refine wl_do (wants0 rfl) (fun K165 hK165 => ?_)
      refine d_call (d := 24) rfl (by kernel_rfl) (pSum_any w159 a163 c164 (((((([] : List UInt8) ++ rowB ([99, 111, 109, 109, 105, 116])) ++ intB cl) ++ intB seq) ++ x.l) ++ rowB p) (ListAt.row (enc := encB) (sz := 1) encB_len (by decide) (H162.at 7 rfl)) (ofT_lim cl seq x p hlp)) ?_
      rintro _ w166 ⟨rfl, u168⟩
      have H167 := H162.keepU u168
      refine ⟨_, rfl, ?_⟩
      refine hK165 _ _ ?_
      clear hK165 K165
      refine wl_do (wants0 rfl) (fun K169 hK169 => ?_)
      refine d_storeX (vs := (hc (shaR (((((([] : List UInt8) ++ rowB ([99, 111, 109, 109, 105, 116])) ++ intB cl) ++ intB seq) ++ x.l) ++ rowB p)))) (cs' := (hc (shaR (((((([] : List UInt8) ++ rowB ([99, 111, 109, 109, 105, 116])) ++ intB cl) ++ intB seq) ++ x.l) ++ rowB p)))) rfl H167 3 rfl rfl rfl rfl (by kernel_rfl) (Nat.le_of_ble_eq_true (by kernel_rfl)) (Nat.le_of_ble_eq_true (by kernel_rfl)) (by kernel_rfl) (by kernel_rfl) ?_
      intro w170 (H171 : Sat w [restC w (fun _ => False), cellC b2 35 ([(.int .i64 (cl)), (.int .i64 (seq))] : List Value), cellC b6 24 (hc x), cellC b10 24 (hc (shaR (((((([] : List UInt8) ++ rowB ([99, 111, 109, 109, 105, 116])) ++ intB cl) ++ intB seq) ++ x.l) ++ rowB p))), txtC (.slice (some ⟨b95, 0, none⟩) 6 6) ([99, 111, 109, 109, 105, 116]), cellC r102 134 ([(.slice a153 ((((((([] : List UInt8) ++ rowB ([99, 111, 109, 109, 105, 116])) ++ intB cl) ++ intB seq) ++ x.l) ++ rowB p).length) c154)] : List Value), rowC 5 1 (.slice a153 ((((((([] : List UInt8) ++ rowB ([99, 111, 109, 109, 105, 116])) ++ intB cl) ++ intB seq) ++ x.l) ++ rowB p).length) c154) ((((((([] : List UInt8) ++ rowB ([99, 111, 109, 109, 105, 116])) ++ intB cl) ++ intB seq) ++ x.l) ++ rowB p).length) ((((((([] : List UInt8) ++ rowB ([99, 111, 109, 109, 105, 116])) ++ intB cl) ++ intB seq) ++ x.l) ++ rowB p).flatMap encB), rowC 5 1 (.slice a163 (((((([] : List UInt8) ++ rowB ([99, 111, 109, 109, 105, 116])) ++ intB cl) ++ intB seq) ++ x.l) ++ rowB p).length c164) ((((((([] : List UInt8) ++ rowB ([99, 111, 109, 109, 105, 116])) ++ intB cl) ++ intB seq) ++ x.l) ++ rowB p).length) ((((((([] : List UInt8) ++ rowB ([99, 111, 109, 109, 105, 116])) ++ intB cl) ++ intB seq) ++ x.l) ++ rowB p).flatMap encB)] w170)
      refine hK169 _ _ ?_
      clear hK169 K169
      refine w_nil ?_
      refine then_normal ?_
      refine w_ret ?_
      refine end1 rfl (res_cellN (vs := (hc (shaR (((((([] : List UInt8) ++ rowB ([99, 111, 109, 109, 105, 116])) ++ intB cl) ++ intB seq) ++ x.l) ++ rowB p)))) rfl (by kernel_rfl) (by kernel_rfl) (by exact Nat.le_of_ble_eq_true (by kernel_rfl)) (H171.at 3 rfl) (by kernel_rfl)) ?_
      exact ⟨by rw [ofT_app], H171.upd 0 rfl [] (fun _ h => h.elim)⟩
    · refine d_convMark (e := 5) (s := [99, 111, 109, 109, 105, 116]) rfl H98 4 rfl (by kernel_rfl) (by kernel_rfl) rfl ?_
      intro w173 (H174 : Sat w [restC w (fun _ => False), cellC b2 35 ([(.int .i64 (cl)), (.int .i64 (seq))] : List Value), cellC b6 24 (hc x), cellC b10 24 (hc hash0), txtC (.slice (some ⟨b95, 0, none⟩) 6 6) ([99, 111, 109, 109, 105, 116])] w173)
      have S175 := H174.pick [0, 1, 2, 3] (by decide)
      refine hK100 _ _ S175 ?_
      clear hK100 K100
      refine h_do 0 rfl (by kernel_rfl) (wants0 rfl) (fun K176 hK176 => ?_)
      refine d_call (d := 8) rfl (by kernel_rfl) (wNew_any w173) ?_
      rintro _ w177 ⟨r178, a179, c180, rfl, k181, p182, q183⟩
      have H184 : Sat w [restC w (fun _ => False), cellC b2 35 ([(.int .i64 (cl)), (.int .i64 (seq))] : List Value), cellC b6 24 (hc x), cellC b10 24 (hc hash0), txtC (.slice (some ⟨b95, 0, none⟩) 6 6) ([99, 111, 109, 109, 105, 116]), sepC (wrL r178 a179 c180 ([] : List UInt8))] w177 := H174.addU p182 k181 q183
      have H185 : Sat w [restC w (fun _ => False), cellC b2 35 ([(.int .i64 (cl)), (.int .i64 (seq))] : List Value), cellC b6 24 (hc x), cellC b10 24 (hc hash0), txtC (.slice (some ⟨b95, 0, none⟩) 6 6) ([99, 111, 109, 109, 105, 116]), cellC r178 134 ([(.slice a179 (([] : List UInt8).length) c180)] : List Value), rowC 5 1 (.slice a179 (([] : List UInt8).length) c180) (([] : List UInt8).length) (([] : List UInt8).flatMap encB)] w177 := H184.open 5 rfl
      refine ⟨_, rfl, ?_⟩
      have S186 := H185.pick [0, 1, 2, 3] (by decide)
      refine hK176 _ _ S186 ?_
      clear hK176 K176
      refine h_do 3 rfl (by kernel_rfl) (wants0 rfl) (fun K187 hK187 => ?_)
      have l193 := (show (rowB [99, 111, 109, 109, 105, 116]).length ≤ 16 from rowB_len _)
      refine d_call (d := 11) rfl (by kernel_rfl) (wRowL_any w177 r178 a179 c180 ([] : List UInt8) (H185.fin [5, 6] (by decide) rfl) (by simp) (some ⟨b95, 0, none⟩) 6 ([99, 111, 109, 109, 105, 116]) (ListAt.ofTxt (H185.at 4 rfl)) (off_txt (fun b hb => H185.offP [5, 6] 4 rfl rfl (by decide) hb)) (by first | omega | simp)) ?_
      rintro _ w188 ⟨a190, c191, rfl, T189⟩
      have H194 : Sat w [restC w (fun _ => False), cellC b2 35 ([(.int .i64 (cl)), (.int .i64 (seq))] : List Value), cellC b6 24 (hc x), cellC b10 24 (hc hash0), txtC (.slice (some ⟨b95, 0, none⟩) 6 6) ([99, 111, 109, 109, 105, 116]), cellC r178 134 ([(.slice a190 ((([] : List UInt8) ++ rowB ([99, 111, 109, 109, 105, 116])).length) c191)] : List Value), rowC 5 1 (.slice a190 ((([] : List UInt8) ++ rowB ([99, 111, 109, 109, 105, 116])).length) c191) ((([] : List UInt8) ++ rowB ([99, 111, 109, 109, 105, 116])).length) ((([] : List UInt8) ++ rowB ([99, 111, 109, 109, 105, 116])).flatMap encB)] w188 := (Sat.turnL (L' := [cellC r178 134 ([(.slice a190 ((([] : List UInt8) ++ rowB ([99, 111, 109, 109, 105, 116])).length) c191)] : List Value), rowC 5 1 (.slice a190 ((([] : List UInt8) ++ rowB ([99, 111, 109, 109, 105, 116])).length) c191) ((([] : List UInt8) ++ rowB ([99, 111, 109, 109, 105, 116])).length) ((([] : List UInt8) ++ rowB ([99, 111, 109, 109, 105, 116])).flatMap encB)]) (R := [restC w (fun _ => False), cellC b2 35 ([(.int .i64 (cl)), (.int .i64 (seq))] : List Value), cellC b6 24 (hc x), cellC b10 24 (hc hash0), txtC (.slice (some ⟨b95, 0, none⟩) 6 6) ([99, 111, 109, 109, 105, 116])]) H185 [5, 6] [0, 1, 2, 3, 4] (by decide) (by kernel_rfl) rfl T189).pick [2, 3, 4, 5, 6, 0, 1] (by decide)
      refine ⟨_, rfl, ?_⟩
      have S195 := H194.pick [0, 1, 2, 3] (by decide)
      refine hK187 _ _ S195 ?_
      clear hK187 K187
      refine h_do 6 rfl (by kernel_rfl) (wants0 rfl) (fun K196 hK196 => ?_)
      have l202 := intB_len cl
      refine d_call (d := 14) rfl (by kernel_rfl) (wInt_any w188 r178 a190 c191 (([] : List UInt8) ++ rowB ([99, 111, 109, 109, 105, 116])) (H194.fin [5, 6] (by decide) rfl) (by simp only [List.length_append, List.length_nil]; omega) cl (by omega)) ?_
      rintro _ w197 ⟨a199, c200, rfl, T198⟩
      have H203 : Sat w [restC w (fun _ => False), cellC b2 35 ([(.int .i64 (cl)), (.int .i64 (seq))] : List Value), cellC b6 24 (hc x), cellC b10 24 (hc hash0), txtC (.slice (some ⟨b95, 0, none⟩) 6 6) ([99, 111, 109, 109, 105, 116]), cellC r178 134 ([(.slice a199 (((([] : List UInt8) ++ rowB ([99, 111, 109, 109, 105, 116])) ++ intB cl).length) c200)] : List Value), rowC 5 1 (.slice a199 (((([] : List UInt8) ++ rowB ([99, 111, 109, 109, 105, 116])) ++ intB cl).length) c200) (((([] : List UInt8) ++ rowB ([99, 111, 109, 109, 105, 116])) ++ intB cl).length) (((([] : List UInt8) ++ rowB ([99, 111, 109, 109, 105, 116])) ++ intB cl).flatMap encB)] w197 := (Sat.turnL (L' := [cellC r178 134 ([(.slice a199 (((([] : List UInt8) ++ rowB ([99, 111, 109, 109, 105, 116])) ++ intB cl).length) c200)] : List Value), rowC 5 1 (.slice a199 (((([] : List UInt8) ++ rowB ([99, 111, 109, 109, 105, 116])) ++ intB cl).length) c200) (((([] : List UInt8) ++ rowB ([99, 111, 109, 109, 105, 116])) ++ intB cl).length) (((([] : List UInt8) ++ rowB ([99, 111, 109, 109, 105, 116])) ++ intB cl).flatMap encB)]) (R := [restC w (fun _ => False), cellC b2 35 ([(.int .i64 (cl)), (.int .i64 (seq))] : List Value), cellC b6 24 (hc x), cellC b10 24 (hc hash0), txtC (.slice (some ⟨b95, 0, none⟩) 6 6) ([99, 111, 109, 109, 105, 116])]) H194 [5, 6] [0, 1, 2, 3, 4] (by decide) (by kernel_rfl) rfl T198).pick [2, 3, 4, 5, 6, 0, 1] (by decide)
      refine ⟨_, rfl, ?_⟩
      have S204 := H203.pick [0, 1, 2, 3] (by decide)
      refine hK196 _ _ S204 ?_
      clear hK196 K196
      refine h_do 9 rfl (by kernel_rfl) (wants0 rfl) (fun K205 hK205 => ?_)
      have l211 := intB_len seq
      refine d_call (d := 17) rfl (by kernel_rfl) (wInt_any w197 r178 a199 c200 ((([] : List UInt8) ++ rowB ([99, 111, 109, 109, 105, 116])) ++ intB cl) (H203.fin [5, 6] (by decide) rfl) (by simp only [List.length_append, List.length_nil]; omega) seq (by omega)) ?_
      rintro _ w206 ⟨a208, c209, rfl, T207⟩
      have H212 : Sat w [restC w (fun _ => False), cellC b2 35 ([(.int .i64 (cl)), (.int .i64 (seq))] : List Value), cellC b6 24 (hc x), cellC b10 24 (hc hash0), txtC (.slice (some ⟨b95, 0, none⟩) 6 6) ([99, 111, 109, 109, 105, 116]), cellC r178 134 ([(.slice a208 ((((([] : List UInt8) ++ rowB ([99, 111, 109, 109, 105, 116])) ++ intB cl) ++ intB seq).length) c209)] : List Value), rowC 5 1 (.slice a208 ((((([] : List UInt8) ++ rowB ([99, 111, 109, 109, 105, 116])) ++ intB cl) ++ intB seq).length) c209) ((((([] : List UInt8) ++ rowB ([99, 111, 109, 109, 105, 116])) ++ intB cl) ++ intB seq).length) ((((([] : List UInt8) ++ rowB ([99, 111, 109, 109, 105, 116])) ++ intB cl) ++ intB seq).flatMap encB)] w206 := (Sat.turnL (L' := [cellC r178 134 ([(.slice a208 ((((([] : List UInt8) ++ rowB ([99, 111, 109, 109, 105, 116])) ++ intB cl) ++ intB seq).length) c209)] : List Value), rowC 5 1 (.slice a208 ((((([] : List UInt8) ++ rowB ([99, 111, 109, 109, 105, 116])) ++ intB cl) ++ intB seq).length) c209) ((((([] : List UInt8) ++ rowB ([99, 111, 109, 109, 105, 116])) ++ intB cl) ++ intB seq).length) ((((([] : List UInt8) ++ rowB ([99, 111, 109, 109, 105, 116])) ++ intB cl) ++ intB seq).flatMap encB)]) (R := [restC w (fun _ => False), cellC b2 35 ([(.int .i64 (cl)), (.int .i64 (seq))] : List Value), cellC b6 24 (hc x), cellC b10 24 (hc hash0), txtC (.slice (some ⟨b95, 0, none⟩) 6 6) ([99, 111, 109, 109, 105, 116])]) H203 [5, 6] [0, 1, 2, 3, 4] (by decide) (by kernel_rfl) rfl T207).pick [2, 3, 4, 5, 6, 0, 1] (by decide)
      refine ⟨_, rfl, ?_⟩
      have S213 := H212.pick [0, 1, 2, 3] (by decide)
      refine hK205 _ _ S213 ?_
      clear hK205 K205
      refine h_val 10 rfl (by kernel_rfl) (by kernel_rfl) (by kernel_rfl) (fun _ _ _ h => h) S213 (wants0 rfl) (d := 7) (v := (.pointer (some ⟨r178, 0, none⟩))) rfl (fun _ H' => (by kernel_rfl)) ?_
      refine h_fin (by kernel_rfl) ?_
      refine then_normal ?_
      refine w_seq ?_
      refine w_lit ?_
      refine wl_pure (wants0 rfl) (d := 18) (v := (.pointer (some ⟨r178, 0, none⟩))) rfl (by kernel_rfl) ?_
      refine wl_pure (wants0 rfl) (d := 19) (v := (.agg ⟨(hc x)⟩)) rfl (e_loadN (vs := (hc x)) rfl (by kernel_rfl) (by kernel_rfl) (by exact Nat.le_of_ble_eq_true (by kernel_rfl)) (H212.at 2 rfl) (by kernel_rfl)) ?_
      refine wl_do (wants0 rfl) (fun K214 hK214 => ?_)
      have l220 := x.len
      refine d_call (d := 20) rfl (by kernel_rfl) (wHash_any w206 r178 a208 c209 (((([] : List UInt8) ++ rowB ([99, 111, 109, 109, 105, 116])) ++ intB cl) ++ intB seq) (H212.fin [5, 6] (by decide) rfl) (by simp only [List.length_append, List.length_nil]; omega) x) ?_
      rintro _ w215 ⟨a217, c218, rfl, T216⟩
      have H221 : Sat w [restC w (fun _ => False), cellC b2 35 ([(.int .i64 (cl)), (.int .i64 (seq))] : List Value), cellC b6 24 (hc x), cellC b10 24 (hc hash0), txtC (.slice (some ⟨b95, 0, none⟩) 6 6) ([99, 111, 109, 109, 105, 116]), cellC r178 134 ([(.slice a217 (((((([] : List UInt8) ++ rowB ([99, 111, 109, 109, 105, 116])) ++ intB cl) ++ intB seq) ++ x.l).length) c218)] : List Value), rowC 5 1 (.slice a217 (((((([] : List UInt8) ++ rowB ([99, 111, 109, 109, 105, 116])) ++ intB cl) ++ intB seq) ++ x.l).length) c218) (((((([] : List UInt8) ++ rowB ([99, 111, 109, 109, 105, 116])) ++ intB cl) ++ intB seq) ++ x.l).length) (((((([] : List UInt8) ++ rowB ([99, 111, 109, 109, 105, 116])) ++ intB cl) ++ intB seq) ++ x.l).flatMap encB)] w215 := (Sat.turnL (L' := [cellC r178 134 ([(.slice a217 (((((([] : List UInt8) ++ rowB ([99, 111, 109, 109, 105, 116])) ++ intB cl) ++ intB seq) ++ x.l).length) c218)] : List Value), rowC 5 1 (.slice a217 (((((([] : List UInt8) ++ rowB ([99, 111, 109, 109, 105, 116])) ++ intB cl) ++ intB seq) ++ x.l).length) c218) (((((([] : List UInt8) ++ rowB ([99, 111, 109, 109, 105, 116])) ++ intB cl) ++ intB seq) ++ x.l).length) (((((([] : List UInt8) ++ rowB ([99, 111, 109, 109, 105, 116])) ++ intB cl) ++ intB seq) ++ x.l).flatMap encB)]) (R := [restC w (fun _ => False), cellC b2 35 ([(.int .i64 (cl)), (.int .i64 (seq))] : List Value), cellC b6 24 (hc x), cellC b10 24 (hc hash0), txtC (.slice (some ⟨b95, 0, none⟩) 6 6) ([99, 111, 109, 109, 105, 116])]) H212 [5, 6] [0, 1, 2, 3, 4] (by decide) (by kernel_rfl) rfl T216).pick [2, 3, 4, 5, 6, 0, 1] (by decide)
      refine ⟨_, rfl, ?_⟩
      refine hK214 _ _ ?_
      clear hK214 K214
      refine wl_pure (wants0 rfl) (d := 21) (v := (.slice pa p.length pc)) rfl (by kernel_rfl) ?_
      refine wl_do (wants0 rfl) (fun K222 hK222 => ?_)
      have l228 := rowB_len p
      refine d_call (d := 22) rfl (by kernel_rfl) (wRowL_any w215 r178 a217 c218 ((((([] : List UInt8) ++ rowB ([99, 111, 109, 109, 105, 116])) ++ intB cl) ++ intB seq) ++ x.l) (H221.fin [5, 6] (by decide) rfl) (by simp only [List.length_append, List.length_nil]; omega) pa pc p (ListAt.now H221 0 rfl hp) (list_off encB_len (by decide) H221 [5, 6] 0 rfl rfl (by decide) hp) (by omega)) ?_
      rintro _ w223 ⟨a225, c226, rfl, T224⟩
      have H229 : Sat w [restC w (fun _ => False), cellC b2 35 ([(.int .i64 (cl)), (.int .i64 (seq))] : List Value), cellC b6 24 (hc x), cellC b10 24 (hc hash0), txtC (.slice (some ⟨b95, 0, none⟩) 6 6) ([99, 111, 109, 109, 105, 116]), cellC r178 134 ([(.slice a225 ((((((([] : List UInt8) ++ rowB ([99, 111, 109, 109, 105, 116])) ++ intB cl) ++ intB seq) ++ x.l) ++ rowB p).length) c226)] : List Value), rowC 5 1 (.slice a225 ((((((([] : List UInt8) ++ rowB ([99, 111, 109, 109, 105, 116])) ++ intB cl) ++ intB seq) ++ x.l) ++ rowB p).length) c226) ((((((([] : List UInt8) ++ rowB ([99, 111, 109, 109, 105, 116])) ++ intB cl) ++ intB seq) ++ x.l) ++ rowB p).length) ((((((([] : List UInt8) ++ rowB ([99, 111, 109, 109, 105, 116])) ++ intB cl) ++ intB seq) ++ x.l) ++ rowB p).flatMap encB)] w223 := (Sat.turnL (L' := [cellC r178 134 ([(.slice a225 ((((((([] : List UInt8) ++ rowB ([99, 111, 109, 109, 105, 116])) ++ intB cl) ++ intB seq) ++ x.l) ++ rowB p).length) c226)] : List Value), rowC 5 1 (.slice a225 ((((((([] : List UInt8) ++ rowB ([99, 111, 109, 109, 105, 116])) ++ intB cl) ++ intB seq) ++ x.l) ++ rowB p).length) c226) ((((((([] : List UInt8) ++ rowB ([99, 111, 109, 109, 105, 116])) ++ intB cl) ++ intB seq) ++ x.l) ++ rowB p).length) ((((((([] : List UInt8) ++ rowB ([99, 111, 109, 109, 105, 116])) ++ intB cl) ++ intB seq) ++ x.l) ++ rowB p).flatMap encB)]) (R := [restC w (fun _ => False), cellC b2 35 ([(.int .i64 (cl)), (.int .i64 (seq))] : List Value), cellC b6 24 (hc x), cellC b10 24 (hc hash0), txtC (.slice (some ⟨b95, 0, none⟩) 6 6) ([99, 111, 109, 109, 105, 116])]) H221 [5, 6] [0, 1, 2, 3, 4] (by decide) (by kernel_rfl) rfl T224).pick [2, 3, 4, 5, 6, 0, 1] (by decide)
      refine ⟨_, rfl, ?_⟩
      refine hK222 _ _ ?_
      clear hK222 K222
      refine wl_do (wants0 rfl) (fun K230 hK230 => ?_)
      refine d_call (d := 23) rfl (by kernel_rfl) (wBytes_any w223 r178 a225 c226 (((((([] : List UInt8) ++ rowB ([99, 111, 109, 109, 105, 116])) ++ intB cl) ++ intB seq) ++ x.l) ++ rowB p) (H229.fin [5, 6] (by decide) rfl) (by simp only [List.length_append, List.length_nil]; omega)) ?_
      rintro _ w231 ⟨u232, rfl, T233⟩
      have H234 : Sat w [restC w (fun _ => False), cellC b2 35 ([(.int .i64 (cl)), (.int .i64 (seq))] : List Value), cellC b6 24 (hc x), cellC b10 24 (hc hash0), txtC (.slice (some ⟨b95, 0, none⟩) 6 6) ([99, 111, 109, 109, 105, 116]), cellC r178 134 ([(.slice a225 ((((((([] : List UInt8) ++ rowB ([99, 111, 109, 109, 105, 116])) ++ intB cl) ++ intB seq) ++ x.l) ++ rowB p).length) c226)] : List Value), rowC 5 1 (.slice a225 ((((((([] : List UInt8) ++ rowB ([99, 111, 109, 109, 105, 116])) ++ intB cl) ++ intB seq) ++ x.l) ++ rowB p).length) c226) ((((((([] : List UInt8) ++ rowB ([99, 111, 109, 109, 105, 116])) ++ intB cl) ++ intB seq) ++ x.l) ++ rowB p).length) ((((((([] : List UInt8) ++ rowB ([99, 111, 109, 109, 105, 116])) ++ intB cl) ++ intB seq) ++ x.l) ++ rowB p).flatMap encB), rowC 5 1 u232 ((((((([] : List UInt8) ++ rowB ([99, 111, 109, 109, 105, 116])) ++ intB cl) ++ intB seq) ++ x.l) ++ rowB p).length) ((((((([] : List UInt8) ++ rowB ([99, 111, 109, 109, 105, 116])) ++ intB cl) ++ intB seq) ++ x.l) ++ rowB p).flatMap encB)] w231 := (Sat.turnL (L' := [cellC r178 134 ([(.slice a225 ((((((([] : List UInt8) ++ rowB ([99, 111, 109, 109, 105, 116])) ++ intB cl) ++ intB seq) ++ x.l) ++ rowB p).length) c226)] : List Value), rowC 5 1 (.slice a225 ((((((([] : List UInt8) ++ rowB ([99, 111, 109, 109, 105, 116])) ++ intB cl) ++ intB seq) ++ x.l) ++ rowB p).length) c226) ((((((([] : List UInt8) ++ rowB ([99, 111, 109, 109, 105, 116])) ++ intB cl) ++ intB seq) ++ x.l) ++ rowB p).length) ((((((([] : List UInt8) ++ rowB ([99, 111, 109, 109, 105, 116])) ++ intB cl) ++ intB seq) ++ x.l) ++ rowB p).flatMap encB), rowC 5 1 u232 ((((((([] : List UInt8) ++ rowB ([99, 111, 109, 109, 105, 116])) ++ intB cl) ++ intB seq) ++ x.l) ++ rowB p).length) ((((((([] : List UInt8) ++ rowB ([99, 111, 109, 109, 105, 116])) ++ intB cl) ++ intB seq) ++ x.l) ++ rowB p).flatMap encB)]) (R := [restC w (fun _ => False), cellC b2 35 ([(.int .i64 (cl)), (.int .i64 (seq))] : List Value), cellC b6 24 (hc x), cellC b10 24 (hc hash0), txtC (.slice (some ⟨b95, 0, none⟩) 6 6) ([99, 111, 109, 109, 105, 116])]) H229 [5, 6] [0, 1, 2, 3, 4] (by decide) (by kernel_rfl) rfl T233).pick [3, 4, 5, 6, 7, 0, 1, 2] (by decide)
      obtain ⟨a235, c236, rfl⟩ := ownsRow_shape (H234.at 7 rfl)
      refine ⟨_, rfl, ?_⟩
      refine hK230 _ _ ?_
      clear hK230 K230
      refine wl_do (wants0 rfl) (fun K237 hK237 => ?_)
      refine d_call (d := 24) rfl (by kernel_rfl) (pSum_any w231 a235 c236 (((((([] : List UInt8) ++ rowB ([99, 111, 109, 109, 105, 116])) ++ intB cl) ++ intB seq) ++ x.l) ++ rowB p) (ListAt.row (enc := encB) (sz := 1) encB_len (by decide) (H234.at 7 rfl)) (ofT_lim cl seq x p hlp)) ?_
      rintro _ w238 ⟨rfl, u240⟩
      have H239 := H234.keepU u240
      refine ⟨_, rfl, ?_⟩
      refine hK237 _ _ ?_
      clear hK237 K237
      refine wl_do (wants0 rfl) (fun K241 hK241 => ?_)
      refine d_storeX (vs := (hc (shaR (((((([] : List UInt8) ++ rowB ([99, 111, 109, 109, 105, 116])) ++ intB cl) ++ intB seq) ++ x.l) ++ rowB p)))) (cs' := (hc (shaR (((((([] : List UInt8) ++ rowB ([99, 111, 109, 109, 105, 116])) ++ intB cl) ++ intB seq) ++ x.l) ++ rowB p)))) rfl H239 3 rfl rfl rfl rfl (by kernel_rfl) (Nat.le_of_ble_eq_true (by kernel_rfl)) (Nat.le_of_ble_eq_true (by kernel_rfl)) (by kernel_rfl) (by kernel_rfl) ?_
      intro w242 (H243 : Sat w [restC w (fun _ => False), cellC b2 35 ([(.int .i64 (cl)), (.int .i64 (seq))] : List Value), cellC b6 24 (hc x), cellC b10 24 (hc (shaR (((((([] : List UInt8) ++ rowB ([99, 111, 109, 109, 105, 116])) ++ intB cl) ++ intB seq) ++ x.l) ++ rowB p))), txtC (.slice (some ⟨b95, 0, none⟩) 6 6) ([99, 111, 109, 109, 105, 116]), cellC r178 134 ([(.slice a225 ((((((([] : List UInt8) ++ rowB ([99, 111, 109, 109, 105, 116])) ++ intB cl) ++ intB seq) ++ x.l) ++ rowB p).length) c226)] : List Value), rowC 5 1 (.slice a225 ((((((([] : List UInt8) ++ rowB ([99, 111, 109, 109, 105, 116])) ++ intB cl) ++ intB seq) ++ x.l) ++ rowB p).length) c226) ((((((([] : List UInt8) ++ rowB ([99, 111, 109, 109, 105, 116])) ++ intB cl) ++ intB seq) ++ x.l) ++ rowB p).length) ((((((([] : List UInt8) ++ rowB ([99, 111, 109, 109, 105, 116])) ++ intB cl) ++ intB seq) ++ x.l) ++ rowB p).flatMap encB), rowC 5 1 (.slice a235 (((((([] : List UInt8) ++ rowB ([99, 111, 109, 109, 105, 116])) ++ intB cl) ++ intB seq) ++ x.l) ++ rowB p).length c236) ((((((([] : List UInt8) ++ rowB ([99, 111, 109, 109, 105, 116])) ++ intB cl) ++ intB seq) ++ x.l) ++ rowB p).length) ((((((([] : List UInt8) ++ rowB ([99, 111, 109, 109, 105, 116])) ++ intB cl) ++ intB seq) ++ x.l) ++ rowB p).flatMap encB)] w242)
      refine hK241 _ _ ?_
      clear hK241 K241
      refine w_nil ?_
      refine then_normal ?_
      refine w_ret ?_
      refine end1 rfl (res_cellN (vs := (hc (shaR (((((([] : List UInt8) ++ rowB ([99, 111, 109, 109, 105, 116])) ++ intB cl) ++ intB seq) ++ x.l) ++ rowB p)))) rfl (by kernel_rfl) (by kernel_rfl) (by exact Nat.le_of_ble_eq_true (by kernel_rfl)) (H243.at 3 rfl) (by kernel_rfl)) ?_
      exact ⟨by rw [ofT_app], H243.upd 0 rfl [] (fun _ h => h.elim)⟩

set_option maxRecDepth 100000 in
set_option maxHeartbeats 400000 in
theorem pMatches_any (w : World) (y : Hash) (oi : Int) (cl seq : Int) (x : Hash) (pa : Option Addr) (pc : Nat) (p : List UInt8) (hp : ListAt encB 1 w (.slice pa p.length pc) p) (hcl : cl ≤ 9223372036854775807) (hsq : seq ≤ 9223372036854775807) (hlp : p.length ≤ 1000) :
    Calls Try.prog 33 #[(.agg ⟨(hc y)⟩), (.agg ⟨([(.int .i64 (cl)), (.int .i64 (seq))] : List Value)⟩), (.agg ⟨(([(.int .i64 (oi)), (.slice pa p.length pc)] : List Value) ++ hc x)⟩)] w fun e w' => e = .returned (.bool (decide (y = shaR (ofT cl seq x p)))) ∧ Upd [] w w' := by
  have H := Sat.start0 w
  refine calls_fr Try.func33 rfl 15 rfl (Nat.le_of_ble_eq_true rfl) ?_
  refine w_seq ?_
  refine w_lit ?_
  refine wl_do (wants0 rfl) (fun K1 hK1 => ?_)
  refine d_box (vs := (hc y)) rfl H rfl rfl ?_
  intro b2 w3 (H4 : Sat w [restC w (fun _ => False), cellC b2 24 (hc y)] w3)
  refine hK1 _ _ ?_
  clear hK1 K1
  refine wl_do (wants0 rfl) (fun K5 hK5 => ?_)
  refine d_box (vs := ([(.int .i64 (cl)), (.int .i64 (seq))] : List Value)) rfl H4 rfl rfl ?_
  intro b6 w7 (H8 : Sat w [restC w (fun _ => False), cellC b2 24 (hc y), cellC b6 35 ([(.int .i64 (cl)), (.int .i64 (seq))] : List Value)] w7)
  refine hK5 _ _ ?_
  clear hK5 K5
  refine wl_do (wants0 rfl) (fun K9 hK9 => ?_)
  refine d_box (vs := (([(.int .i64 (oi)), (.slice pa p.length pc)] : List Value) ++ hc x)) rfl H8 rfl rfl ?_
  intro b10 w11 (H12 : Sat w [restC w (fun _ => False), cellC b2 24 (hc y), cellC b6 35 ([(.int .i64 (cl)), (.int .i64 (seq))] : List Value), cellC b10 43 (([(.int .i64 (oi)), (.slice pa p.length pc)] : List Value) ++ hc x)] w11)
  refine hK9 _ _ ?_
  clear hK9 K9
  refine wl_pure (wants0 rfl) (d := 6) (v := (.bool false)) rfl (by kernel_rfl) ?_
  refine w_nil ?_
  refine then_normal ?_
  refine w_seq ?_
  refine q_start H12 (by kernel_rfl) (by kernel_rfl) ?_
  refine q_val (wants0 rfl) (d := 7) (v := (.agg ⟨(hc y)⟩)) rfl (fun _ H' => (e_loadN (vs := (hc y)) rfl (by kernel_rfl) (by kernel_rfl) (by exact Nat.le_of_ble_eq_true (by kernel_rfl)) (H'.at 1 rfl) (by kernel_rfl))) ?_
  refine q_val (wants0 rfl) (d := 8) (v := (.agg ⟨([(.int .i64 (cl)), (.int .i64 (seq))] : List Value)⟩)) rfl (fun _ H' => (e_loadN (vs := ([(.int .i64 (cl)), (.int .i64 (seq))] : List Value)) rfl (by kernel_rfl) (by kernel_rfl) (by exact Nat.le_of_ble_eq_true (by kernel_rfl)) (H'.at 2 rfl) (by kernel_rfl))) ?_
  refine q_val (wants0 rfl) (d := 9) (v := (.pointer (some ⟨b10, 2, none⟩))) rfl (fun _ H' => (by kernel_rfl)) ?_
  refine q_val (wants0 rfl) (d := 10) (v := (.agg ⟨(hc x)⟩)) rfl (fun _ H' => (e_loadN (vs := (hc x)) rfl (by kernel_rfl) (by kernel_rfl) (by exact Nat.le_of_ble_eq_true (by kernel_rfl)) (H'.at 3 rfl) (by kernel_rfl))) ?_
  refine q_val (wants0 rfl) (d := 11) (v := (.pointer (some ⟨b10, 1, none⟩))) rfl (fun _ H' => (by kernel_rfl)) ?_
  refine q_val (wants0 rfl) (d := 12) (v := (.slice pa p.length pc)) rfl (fun _ H' => (e_load1 rfl (by kernel_rfl) (H'.cell 3 rfl (by kernel_rfl)))) ?_
  refine q_call (wants0 rfl) (d := 13) (v := (.agg ⟨(hc (shaR (ofT cl seq x p)))⟩)) rfl (fun _ _ => by kernel_rfl) (fun w' H' => (pOf_any w' cl seq x pa pc p (ListAt.now H' 0 rfl hp) hcl hsq hlp).mono fun _ _ h => ⟨h.1, H'.keepU h.2⟩) ?_
  refine q_val (wants0 rfl) (d := 14) (v := (.bool (decide (y = (shaR (ofT cl seq x p)))))) rfl (fun _ H' => (e_eqHash y (shaR (ofT cl seq x p)) rfl rfl)) ?_
  refine q_val (wants0 rfl) (d := 6) (v := (.bool (decide (y = (shaR (ofT cl seq x p)))))) rfl (fun _ H' => (by kernel_rfl)) ?_
  refine q_end ?_
  intro w13 H14
  refine then_normal ?_
  refine w_ret ?_
  refine end1 rfl (res_tmp (v := (.bool (decide (y = (shaR (ofT cl seq x p)))))) rfl) ?_
  exact ⟨rfl, H14.upd 0 rfl [] (fun _ h => h.elim)⟩

end Go.Proofs.Ytoiplcicbjimlaa
