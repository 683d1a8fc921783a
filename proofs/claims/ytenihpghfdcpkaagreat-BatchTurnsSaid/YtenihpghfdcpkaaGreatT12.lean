/- WHAT IS PROVED: contracts and plain laws of Wt, DenyT, PBook, ShaM. Conditions: stated with each. -/
import Derived.Test.YtenihpghfdcpkaaGreatT05
import Derived.Test.YtenihpghfdcpkaaGreatT06
import Derived.Test.YtenihpghfdcpkaaGreatT07
set_option maxHeartbeats 4000000
set_option maxRecDepth 100000
namespace Go.Proofs.YtenihpghfdcpkaaGreat
open Go.RowKit
abbrev kWt_0 (p0 : Option Addr) (p1 : Nat) (p2 : Nat) : List Value := ([(.slice p0 p1 p2)] : List Value)
abbrev kWt_1 (p0 : Option Addr) (p1 : List UInt8) (p2 : Nat) : Ck := rowC 5 1 (.slice p0 p1.length p2) p1.length (p1.flatMap encB)
theorem ListAt.nowD {α : Type} {enc : α → List Value} {sz : Nat} {w0 w W : World} {G : List Ck} {D : Nat → Prop} (H : Sat w0 G w) (j : Nat) (hj : G[j]? = Option.some (restC W D)) {a : Option Addr} {n c : Nat} {xs : List α} (hv : ListAt enc sz W (.slice a n c) xs) (hf : 0 < xs.length → ∀ ad, a = some ad → ¬ D ad.block) : ListAt enc sz w (.slice a n c) xs := by
 rcases hv with h | ⟨h0, b', o, c', e, hc, h⟩
 ·exact .inl h
 have ha : a = some ⟨b', o, none⟩ := by simp only [Value.slice.injEq] at e; exact e.1
 refine .inr ⟨h0, b', o, c', e, hc, fun i hi q u hq => ?_⟩
 have h1 := h i hi q u hq
 rw [Addr.add_lit] at h1 ⊢
 exact H.cellR j hj h1 (show ¬ D b' from hf h0 _ ha)
theorem wHash_any (w : World) (r : Nat) (a0 : Option Addr) (c0 : Nat) (B : List UInt8) (hB : (sepC (wrL r a0 c0 B)).ok w) (hl : B.length ≤ 1000000) (x : Hash) :
  Calls Tryz.prog 160 #[(.pointer (some ⟨r, 0, none⟩)), (.agg ⟨(hc x)⟩)] w fun e w' => ∃ a' c', e = .returned (.pointer (some ⟨r, 0, none⟩)) ∧ Sat w [cellC r 266 [.slice a' (B ++ x.l).length c'], rowC 5 1 (.slice a' (B ++ x.l).length c') (B ++ x.l).length ((B ++ x.l).flatMap encB), restC w (sepC (wrL r a0 c0 B)).fp] w' := by
 have H := Sat.start (wrL r a0 c0 B) hB
 have hx := x.len
 refine calls_fr Tryz.func160 rfl 15 rfl (Nat.le_of_ble_eq_true rfl) ?_
 refine zsl <| zwd fun Kq kq => zdb (hc x) H fun b2 w3 H4 => ?_
 refine kq _ _ <| wv 4 (.pointer none) <| znt <| w_seq <| k_start H4 [cellC r 266 (kWt_0 a0 B.length c0), restC w (sepC (wrL r a0 c0 B)).fp, cellC b2 61 (hc x)] [9] 10 rfl (by kernel_rfl) (fun Hx => (Hx.pk [0, 2, 3])) fun w5 H6 S7 => ?_
 refine zkp 0 S7 5 (pt r 0) <| zkp 1 S7 6 (pt r 0) <| zkp 2 S7 7 (pt r 0) <| zkp 3 S7 8 (pt r 0) <| zkv 4 S7 9 (.slice a0 B.length c0) ?_ (he := fun _ H' => (zl1 (H'.cell 0 rfl rfl)))
 refine zkp 5 S7 10 (.slice (some ⟨b2, 0, none⟩) 32 32) <| zkd0 6 fun Kq kq => ?_
 refine d_appendL (T := 84) (e := 5) (size := 1) (bytes := 1) rfl H6 (by kernel_rfl) encB_len encB_one 1 rfl (ListAt.ofHash (x := x) (cell_runT (H6.at 3 rfl) (by kernel_rfl)) (by decide)) rfl rfl (by omega) (by omega) ?_
 intro v9 w10 (H12 : Sat w [cellC r 266 (kWt_0 a0 B.length c0), rowC 5 1 v9 (B.length + x.l.length) (B.flatMap encB ++ x.l.flatMap encB), restC w (sepC (wrL r a0 c0 B)).fp, cellC b2 61 (hc x)] w10)
 have H11 : Sat w [cellC r 266 (kWt_0 a0 B.length c0), rowC 5 1 v9 ((B ++ x.l).length) ((B ++ x.l).flatMap encB), restC w (sepC (wrL r a0 c0 B)).fp, cellC b2 61 (hc x)] w10 := H12.cast (by simp only [List.length_append, List.flatMap_append])
 obtain ⟨a13, c14, rfl⟩ := ownsRow_shape (H11.at 1 rfl)
 have S15 := H11.pk [0, 2, 3]
 refine kq _ _ S15 <| zkp 7 S15 12 (pt r 0) <| zkp 8 S15 13 (pt r 0) <| k_brk 9 (Sat w [restC w (sepC (wrL r a0 c0 B)).fp, cellC b2 61 (hc x)]) rfl (by kernel_rfl) (wants0 rfl) rfl (fun Kq kq => ?_)
 refine zds1 (kWt_0 a13 ((B ++ x.l).length) c14) H11 0 ?_
 intro w17 (H18 : Sat w [cellC r 266 (kWt_0 a13 ((B ++ x.l).length) c14), (kWt_1 a13 (B ++ x.l) c14), restC w (sepC (wrL r a0 c0 B)).fp, cellC b2 61 (hc x)] w17)
 have S20 := H18.pk [2, 3]
 refine kq _ _ S20 <| zhf <| ztn <| zsl <| wv 14 (pt r 0) <| wv 4 (pt r 0) <| znt <| w_ret <| ze1 (pt r 0) ?_
 have hX : (B ++ x.l) = (B ++ x.l) := by rfl
 exact ⟨a13, c14, rfl, (H18.pk [0, 1, 2]).cast (by show [_, _, _] = _; rw [hX])⟩
theorem wRowL_any (w : World) (r : Nat) (a0 : Option Addr) (c0 : Nat) (B : List UInt8) (hB : (sepC (wrL r a0 c0 B)).ok w) (hl : B.length ≤ 1000000) (ta : Option Addr) (tc : Nat) (tx : List UInt8) (ht : ListAt encB 1 w (.slice ta tx.length tc) tx) (hoff : 0 < tx.length → ∀ ad, ta = some ad → ¬ (sepC (wrL r a0 c0 B)).fp ad.block) (hl2 : tx.length ≤ 1000000) :
  Calls Tryz.prog 158 #[(.pointer (some ⟨r, 0, none⟩)), (.slice ta tx.length tc)] w fun e w' => ∃ a' c', e = .returned (.pointer (some ⟨r, 0, none⟩)) ∧ Sat w [cellC r 266 [.slice a' (B ++ rowB tx).length c'], rowC 5 1 (.slice a' (B ++ rowB tx).length c') (B ++ rowB tx).length ((B ++ rowB tx).flatMap encB), restC w (sepC (wrL r a0 c0 B)).fp] w' := by
 have H := Sat.start (wrL r a0 c0 B) hB
 have hvl := intB_len (tx.length : Int)
 refine calls_fr Tryz.func158 rfl 19 rfl (Nat.le_of_ble_eq_true rfl) ?_
 refine zsl <| wv 4 (.pointer none) <| znsl <| wv 5 (pt r 0) <| wv 6 (.slice ta tx.length tc) <| wv 7 (.int .i64 ((tx.length : Int))) <| zwd fun Kq kq => ?_
 have l7 := intB_len (tx.length : Int)
 refine zdc 8 (wInt_any w r a0 c0 B (H.fn [0, 1]) (by omega) (tx.length : Int) (by omega)) ?_
 rintro _ w2 ⟨a4, c5, rfl, T3⟩
 have H8 := H.tl [cellC r 266 (kWt_0 a4 ((B ++ intB (tx.length : Int)).length) c5), (kWt_1 a4 (B ++ intB (tx.length : Int)) c5)] [0, 1] [2] T3 [0, 1, 2]
 refine ⟨_, rfl, ?_⟩
 refine kq _ _ <| znsl <| wv 9 (pt r 0) <| wv 10 (pt r 0) <| wv 11 (pt r 0) <| wv 12 (pt r 0) <| zw1 13 (.slice a4 ((B ++ intB (tx.length : Int)).length) c5) (H8.cell 0 rfl rfl) <| wv 14 (.slice ta tx.length tc) <| zwd fun Kq kq => d_appendL (T := 84) (e := 5) (size := 1) (bytes := 1) rfl H8 (by kernel_rfl) encB_len encB_one 1 rfl (ListAt.nowD H8 2 rfl ht hoff) rfl rfl (by simp only [List.length_append]; omega) (by simp only [List.length_append]; omega) ?_
 intro v10 w11 (H13 : Sat w [cellC r 266 (kWt_0 a4 ((B ++ intB (tx.length : Int)).length) c5), rowC 5 1 v10 ((B ++ intB (tx.length : Int)).length + tx.length) ((B ++ intB (tx.length : Int)).flatMap encB ++ tx.flatMap encB), restC w (sepC (wrL r a0 c0 B)).fp] w11)
 have H12 : Sat w [cellC r 266 (kWt_0 a4 ((B ++ intB (tx.length : Int)).length) c5), rowC 5 1 v10 (((B ++ intB (tx.length : Int)) ++ tx).length) (((B ++ intB (tx.length : Int)) ++ tx).flatMap encB), restC w (sepC (wrL r a0 c0 B)).fp] w11 := H13.cast (by simp only [List.length_append, List.flatMap_append])
 obtain ⟨a14, c15, rfl⟩ := ownsRow_shape (H12.at 1 rfl)
 refine kq _ _ <| wv 16 (pt r 0) <| wv 17 (pt r 0) <| zwd fun Kq kq => d_store (vs := (kWt_0 a14 (((B ++ intB (tx.length : Int)) ++ tx).length) c15)) rfl H12 0 rfl rfl rfl rfl (by kernel_rfl) (Nat.le_of_ble_eq_true (by kernel_rfl)) (Nat.le_of_ble_eq_true (by kernel_rfl)) (by kernel_rfl) ?_
 intro w17 (H18 : Sat w [cellC r 266 (kWt_0 a14 (((B ++ intB (tx.length : Int)) ++ tx).length) c15), (kWt_1 a14 ((B ++ intB (tx.length : Int)) ++ tx) c15), restC w (sepC (wrL r a0 c0 B)).fp] w17)
 refine kq _ _ <| znsl <| wv 18 (pt r 0) <| wv 4 (pt r 0) <| znt <| w_ret <| ze1 (pt r 0) ?_
 have hX : ((B ++ intB (tx.length : Int)) ++ tx) = (B ++ rowB tx) := by unfold rowB intB; rw [show (max 0 (tx.length : Int)).toNat = tx.length by omega, List.append_assoc]
 exact ⟨a14, c15, rfl, (H18.pick [0, 1, 2] (by decide)).cast (by show [_, _, _] = _; rw [hX])⟩
theorem wNew_any (w : World) :
  Calls Tryz.prog 157 #[] w fun e w' => ∃ r a c, e = .returned (.pointer (some ⟨r, 0, none⟩)) ∧ (sepC (wrL r a c [])).ok w' ∧ Upd [] w w' ∧ ∀ q_, (sepC (wrL r a c [])).fp q_ → w.heap.size ≤ q_ := by
 have H := Sat.start0 w
 refine calls_fr Tryz.func157 rfl 3 rfl (Nat.le_of_ble_eq_true rfl) ?_
 refine zsl <| wv 0 (.pointer none) <| znsl <| wv 1 (.agg ⟨([(.slice none 0 0)] : List Value)⟩) <| zwd fun Kq kq => zdb ([(.slice none 0 0)] : List Value) H fun b2 w3 H4 => ?_
 refine kq _ _ <| wv 0 (pt b2 0) <| znt <| w_ret <| ze1 (pt b2 0) ?_
 have H5 := H4.addNil 5 1
 exact ⟨b2, none, 0, rfl, H5.fn [1, 2], H5.upd 0 rfl [] (fun _ h => h.elim), H5.freshS 0 rfl (fun _ h => h) [1, 2] rfl rfl⟩
theorem wText_any (w : World) (s : List UInt8) (hs : 0 < s.length ∧ s.length ≤ 1000000) :
  Calls Tryz.prog 140 #[(strV s)] w fun e w' => ∃ r a c, e = .returned (.pointer (some ⟨r, 0, none⟩)) ∧ (sepC (wrL r a c (rowB s))).ok w' ∧ Upd [] w w' ∧ ∀ q_, (sepC (wrL r a c (rowB s))).fp q_ → w.heap.size ≤ q_ := by
 have H := Sat.start0 w
 refine calls_fr Tryz.func140 rfl 7 rfl (Nat.le_of_ble_eq_true rfl) ?_
 refine zsl <| wv 2 (.pointer none) <| znsl <| zwd fun Kq kq => zdc 3 (wNew_any w) ?_
 rintro _ w2 ⟨r3, a4, c5, rfl, k6, p7, q8⟩
 have H9 := H.addU p7 k6 q8
 have H10 := H9.open 1 rfl
 refine ⟨_, rfl, ?_⟩
 refine kq _ _ <| wv 4 (strV s) <| zwd fun Kq kq => d_convStr (e := 5) (s := s) rfl H10 (by kernel_rfl) (by kernel_rfl) (by kernel_rfl) rfl (by omega) (by omega) ?_
 intro b14 c15 w12 (H13 : Sat w [restC w (fun _ => False), cellC r3 266 (kWt_0 a4 (([] : List UInt8).length) c5), (kWt_1 a4 (([] : List UInt8)) c5), txtC (.slice (some ⟨b14, 0, none⟩) s.length c15) s] w12)
 refine kq _ _ <| zwd fun Kq kq => ?_
 have l22 := rowB_len s
 refine zdc 6 (wRowL_any w12 r3 a4 c5 ([] : List UInt8) (H13.fn [1, 2]) (by simp) (some ⟨b14, 0, none⟩) c15 s (ListAt.ofTxt (H13.at 3 rfl)) (off_txt (fun b hb => H13.offP [1, 2] 3 rfl rfl (by decide) hb)) (by first | omega | simp)) ?_
 rintro _ w17 ⟨a19, c20, rfl, T18⟩
 have H23 := H13.tl [cellC r3 266 (kWt_0 a19 ((([] : List UInt8) ++ rowB s).length) c20), (kWt_1 a19 (([] : List UInt8) ++ rowB s) c20)] [1, 2] [0, 3] T18 [2, 0, 1, 3]
 refine ⟨_, rfl, ?_⟩
 refine kq _ _ <| wv 2 (pt r3 0) <| znt <| w_ret <| ze1 (pt r3 0) ?_
 have hX : (([] : List UInt8) ++ rowB s) = rowB s := by exact List.nil_append _
 exact ⟨r3, a19, c20, rfl, (by rw [← hX]; exact H23.fn [1, 2]), H23.upd 0 rfl [] (fun _ h => h.elim), (by rw [← hX]; exact H23.freshS 0 rfl (fun _ h => h) [1, 2] rfl rfl)⟩
structure DenyD where
 r : Int
 i : Int
 sb : Int
 sm : Int
deriving DecidableEq
def encDn (d : DenyD) : List Value := [.int .i64 d.r, .int .i64 d.i, .int .i64 d.sb, .int .i64 d.sm]
theorem encDn_len (d : DenyD) : (encDn d).length = 4 := rfl
theorem encDn_one (d : DenyD) : (encDn d).all (·.oneCell') = true := by simp [encDn, Value.oneCell']
def deny0 : DenyD := ⟨0, 0, 0, 0⟩
def denyB (r i : Int) : List UInt8 := [rowB [100, 101, 110, 121], intB r, intB i].flatten
theorem denyB_len (r i : Int) : (denyB r i).length ≤ 40 := by
 unfold denyB
 have h1 := rowB_len [100, 101, 110, 121]
 have h2 := intB_len r
 have h3 := intB_len i
 simp only [List.length_cons, List.length_nil] at h1
 simp only [List.flatten_cons, List.flatten_nil, List.length_append, List.length_nil]
 omega
abbrev kPBook_0 (p0 : Nat) : List Value := ([(.map (some p0))] : List Value)
abbrev kPBook_1 (p0 : Nat) (p1 : List Signed) : Ck := mapC p0 signedV (Value.int .i64) (marks p1)
abbrev kPBook_2 (p0 : Int) (p1 : Int) : List Value := ([(.int .i64 p0), (.int .i64 p1)] : List Value)
abbrev kPBook_3 (p0 : Int) (p1 : Value) : List Value := ([(.int .i64 p0), p1] : List Value)
abbrev kPBook_4 : List Value := ([(.int .i64 (0)), (.int .i64 (0))] : List Value)
theorem optD {α : Type} (enc : α → Value) (o : Option α) (z : α) : (o.map enc).getD (enc z) = enc (o.getD z) := by cases o <;> rfl
def pbkL (b mb : Nat) (L : List Signed) (tv : Value) (tx : List UInt8) : List Ck := [cellC b 179 [.map (some mb)], mapC mb signedV (Value.int .i64) (marks L), rowC 5 1 tv tx.length (tx.flatMap encB)]
theorem pSign_any (w : World) (b mb : Nat) (L : List Signed) (tv : Value) (tx : List UInt8) (hB : (sepC (pbkL b mb L tv tx)).ok w) (_hl : L.length ≤ 1000000) (p : Int) :
  Calls Tryz.prog 35 #[(.pointer (some ⟨b, 0, none⟩)), (.int .i64 (p)), tv] w fun e w' => e = .returned (.agg #[.int .i64 p, .int .i64 (markOf (signL L (⟨p, tx⟩ : Signed)) (⟨p, tx⟩ : Signed))]) ∧ Sat w [cellC b 179 [.map (some mb)], mapC mb signedV (Value.int .i64) (marks (signL L (⟨p, tx⟩ : Signed))), rowC 5 1 tv tx.length (tx.flatMap encB), restC w (sepC (pbkL b mb L tv tx)).fp] w' := by
 have H := Sat.start (pbkL b mb L tv tx) hB
 have hmk : (lookM (marks L) (⟨p, tx⟩ : Signed)).getD 0 = markOf L (⟨p, tx⟩ : Signed) := by rw [look_marks]; rfl
 have hml := marks_len L
 refine calls_fr Tryz.func35 rfl 38 rfl (Nat.le_of_ble_eq_true rfl) ?_
 refine zsl <| zwd fun Kq kq => zda (kPBook_4) H fun b2 w3 H4 => ?_
 refine kq _ _ <| znsl <| wv 8 (.int .i64 (p)) <| wv 9 (tv) <| wv 10 (strV tx) ?_ (hr := e_convBytes (e := 5) (s := tx) (by kernel_rfl) (by kernel_rfl) (by kernel_rfl) rfl (list_bytes (ListAt.row (e := 5) (enc := encB) (sz := 1) (v := tv) (n := tx.length) (xs := tx) encB_len (by decide) (H4.at 2 rfl))))
 refine wv 11 (.agg ⟨(kPBook_3 p (strV tx))⟩) <| zwd fun Kq kq => zda ([(.int .i64 (0)), (strV ([] : List UInt8))] : List Value) H4 fun b6 w7 H8 => ?_
 refine kq _ _ <| zwd fun Kq kq => d_store (vs := (kPBook_3 p (strV tx))) rfl H8 5 rfl rfl rfl rfl (by kernel_rfl) (Nat.le_of_ble_eq_true (by kernel_rfl)) (Nat.le_of_ble_eq_true (by kernel_rfl)) (by kernel_rfl) fun w10 H11 => ?_
 refine kq _ _ <| znt <| w_seq <| w_seq <| zqs H11 ?_
 refine qv 12 (pt b 0) <| qv 13 (pt b 0) <| qv 14 (pt b 0) <| qv 15 (.map (some mb)) ?_ (hr := fun _ H' => (zl1 (H'.cell 0 rfl rfl)))
 refine qv 16 (.agg ⟨(kPBook_3 p (strV tx))⟩) ?_ (hr := fun _ H' => (zlN (vs := (kPBook_3 p (strV tx))) (H'.at 5 rfl)))
 refine qv 17 (.int .i64 ((lookM (marks L) (⟨p, tx⟩ : Signed)).getD 0)) ?_ (hr := fun _ H' => (e_lookup (kt := 176) (et := 3) signedK (by kernel_rfl) (fun w => by kernel_rfl) rfl (⟨p, tx⟩ : Signed) rfl (H'.at 1 rfl) (optD (Value.int .i64) _ _)))
 refine qv 18 (.bool (decide (((lookM (marks L) (⟨p, tx⟩ : Signed)).getD 0) = 0))) <| q_end fun w13 H14 => ?_
 apply ztn
 refine (bsplit (decide (((lookM (marks L) (⟨p, tx⟩ : Signed)).getD 0) = 0))).elim (fun b15 => ?_) (fun b15 => ?_)
 ·have g16 := of_decide_eq_true b15
  refine zwkt _ b15 ?_
  refine h_start H14 [cellC b 179 (kPBook_0 mb), rowC 5 1 tv tx.length (tx.flatMap encB), restC w (sepC (pbkL b mb L tv tx)).fp, cellC b2 69 (kPBook_4), cellC b6 176 (kPBook_3 p (strV tx))] 12 rfl (by kernel_rfl) (fun Hx => (Hx.pk [0, 2, 3, 4, 5])) ?_
  intro w18 H19 S20
  refine hv0 0 S20 19 (pt b 0) <| hv0 1 S20 20 (pt b 0) <| hv0 2 S20 21 (pt b 0) <| hv0 3 S20 22 (.map (some mb)) ?_ (he := fun _ H' => (zl1 (H'.cell 0 rfl rfl)))
  refine hv0 4 S20 23 (.agg ⟨(kPBook_3 p (strV tx))⟩) ?_ (he := fun _ H' => (zlN (vs := (kPBook_3 p (strV tx))) (H'.at 4 rfl)))
  refine hv0 5 S20 24 (pt b 0) <| hv0 6 S20 25 (pt b 0) <| hv0 7 S20 26 (pt b 0) <| hv0 8 S20 27 (.map (some mb)) ?_ (he := fun _ H' => (zl1 (H'.cell 0 rfl rfl)))
  refine zhd0 9 fun Kq kq => ?_
  refine d_pure (d := 28) (v := (.int .i64 ((((marks L)).length : Int)))) rfl (e_len (kt := 176) (et := 3) (by kernel_rfl) (H19.at 1 rfl) rfl) ?_
  have S22 := H19.pk [0, 2, 3, 4, 5]
  refine kq _ _ S22 <| hv0 10 S22 29 (.int .i64 ((((marks L)).length : Int) + 1)) ?_ (he := fun _ H' => (e_int (z := (((marks L)).length : Int) + 1) (by kernel_rfl) (IntWalk.i64_in _ (by omega))))
  refine zhd0 11 fun Kq kq => ?_
  refine d_mapUpdate (kt := 176) (et := 3) rfl H19 1 rfl signedK (by kernel_rfl) rfl (⟨p, tx⟩ : Signed) rfl ((((marks L)).length : Int) + 1) rfl ?_
  intro w24 H25
  have S26 := H25.pk [0, 2, 3, 4, 5]
  refine kq _ _ S26 <| zhf <| ztn <| w_seq <| h_start H25 [cellC b 179 (kPBook_0 mb), mapC mb signedV (Value.int .i64) (putM (marks L) (⟨p, tx⟩ : Signed) ((((marks L)).length : Int) + 1)), rowC 5 1 tv tx.length (tx.flatMap encB), restC w (sepC (pbkL b mb L tv tx)).fp, cellC b6 176 (kPBook_3 p (strV tx))] 9 rfl (by kernel_rfl) (fun Hx => (Hx.pk [0, 1, 2, 3, 5])) fun w27 H28 S29 => ?_
  refine hv0 0 S29 30 (.int .i64 (p)) <| hv0 1 S29 31 (pt b 0) <| hv0 2 S29 32 (pt b 0) <| hv0 3 S29 33 (pt b 0) <| hv0 4 S29 34 (.map (some mb)) ?_ (he := fun _ H' => (zl1 (H'.cell 0 rfl rfl)))
  refine hv0 5 S29 35 (.agg ⟨(kPBook_3 p (strV tx))⟩) ?_ (he := fun _ H' => (zlN (vs := (kPBook_3 p (strV tx))) (H'.at 4 rfl)))
  refine hv0 6 S29 36 (.int .i64 ((lookM (putM (marks L) (⟨p, tx⟩ : Signed) ((((marks L)).length : Int) + 1)) (⟨p, tx⟩ : Signed)).getD 0)) ?_ (he := fun _ H' => (e_lookup (kt := 176) (et := 3) signedK (by kernel_rfl) (fun w => by kernel_rfl) rfl (⟨p, tx⟩ : Signed) rfl (H'.at 1 rfl) (optD (Value.int .i64) _ _)))
  refine h_val 7 rfl (by kernel_rfl) (by kernel_rfl) (by kernel_rfl) (fun _ _ _ h => h) S29 (wants0 rfl) (d := 37) (v := (.agg ⟨(kPBook_2 p ((lookM (putM (marks L) (⟨p, tx⟩ : Signed) ((((marks L)).length : Int) + 1)) (⟨p, tx⟩ : Signed)).getD 0))⟩)) rfl (fun _ H' => (by kernel_rfl)) ?_
  refine zhd0 8 fun Kq kq => ?_
  refine d_store (vs := (kPBook_2 p ((lookM (putM (marks L) (⟨p, tx⟩ : Signed) ((((marks L)).length : Int) + 1)) (⟨p, tx⟩ : Signed)).getD 0))) rfl H28 4 rfl rfl rfl rfl (by kernel_rfl) (Nat.le_of_ble_eq_true (by kernel_rfl)) (Nat.le_of_ble_eq_true (by kernel_rfl)) (by kernel_rfl) ?_
  intro w31 H32
  have S34 := H32.pk [0, 1, 2, 3, 5]
  refine kq _ _ S34 <| zhf <| ztn <| w_ret <| end1 rfl (res_cellN (vs := (kPBook_2 p ((lookM (putM (marks L) (⟨p, tx⟩ : Signed) ((((marks L)).length : Int) + 1)) (⟨p, tx⟩ : Signed)).getD 0))) rfl (by kernel_rfl) (by kernel_rfl) (Nat.le_of_ble_eq_true (by kernel_rfl)) (H32.at 4 rfl) (by kernel_rfl)) ?_
  have hm : (⟨p, tx⟩ : Signed) ∉ L := fun hc => by
   have q := of_decide_eq_true b15
   rw [hmk] at q
   have := (markOf_pos hc).1
   omega
  have hs : signL L (⟨p, tx⟩ : Signed) = L ++ [(⟨p, tx⟩ : Signed)] := by unfold signL; rw [if_neg hm]
  have hp : (putM (marks L) (⟨p, tx⟩ : Signed) ((((marks L)).length : Int) + 1)) = marks (L ++ [(⟨p, tx⟩ : Signed)]) := by rw [hml]; exact put_marks L _ hm
  exact ⟨by rw [hs, hp, look_marks]; rfl, by rw [hs, ← hp]; exact H32.pk [0, 1, 2, 3]⟩
 have g35 := of_decide_eq_false b15
 refine zwkf _ b15 ?_
 refine w_skip <| ztn <| w_seq <| h_start H14 [cellC b 179 (kPBook_0 mb), (kPBook_1 mb L), rowC 5 1 tv tx.length (tx.flatMap encB), restC w (sepC (pbkL b mb L tv tx)).fp, cellC b6 176 (kPBook_3 p (strV tx))] 9 rfl (by kernel_rfl) (fun Hx => (Hx.pk [0, 1, 2, 3, 5])) fun w37 H38 S39 => ?_
 refine hv0 0 S39 30 (.int .i64 (p)) <| hv0 1 S39 31 (pt b 0) <| hv0 2 S39 32 (pt b 0) <| hv0 3 S39 33 (pt b 0) <| hv0 4 S39 34 (.map (some mb)) ?_ (he := fun _ H' => (zl1 (H'.cell 0 rfl rfl)))
 refine hv0 5 S39 35 (.agg ⟨(kPBook_3 p (strV tx))⟩) ?_ (he := fun _ H' => (zlN (vs := (kPBook_3 p (strV tx))) (H'.at 4 rfl)))
 refine hv0 6 S39 36 (.int .i64 ((lookM (marks L) (⟨p, tx⟩ : Signed)).getD 0)) ?_ (he := fun _ H' => (e_lookup (kt := 176) (et := 3) signedK (by kernel_rfl) (fun w => by kernel_rfl) rfl (⟨p, tx⟩ : Signed) rfl (H'.at 1 rfl) (optD (Value.int .i64) _ _)))
 refine h_val 7 rfl (by kernel_rfl) (by kernel_rfl) (by kernel_rfl) (fun _ _ _ h => h) S39 (wants0 rfl) (d := 37) (v := (.agg ⟨(kPBook_2 p ((lookM (marks L) (⟨p, tx⟩ : Signed)).getD 0))⟩)) rfl (fun _ H' => (by kernel_rfl)) ?_
 refine zhd0 8 fun Kq kq => ?_
 refine d_store (vs := (kPBook_2 p ((lookM (marks L) (⟨p, tx⟩ : Signed)).getD 0))) rfl H38 4 rfl rfl rfl rfl (by kernel_rfl) (Nat.le_of_ble_eq_true (by kernel_rfl)) (Nat.le_of_ble_eq_true (by kernel_rfl)) (by kernel_rfl) ?_
 intro w41 H42
 have S44 := H42.pk [0, 1, 2, 3, 5]
 refine kq _ _ S44 <| zhf <| ztn <| w_ret <| end1 rfl (res_cellN (vs := (kPBook_2 p ((lookM (marks L) (⟨p, tx⟩ : Signed)).getD 0))) rfl (by kernel_rfl) (by kernel_rfl) (Nat.le_of_ble_eq_true (by kernel_rfl)) (H42.at 4 rfl) (by kernel_rfl)) ?_
 have hm : (⟨p, tx⟩ : Signed) ∈ L := by
  refine Decidable.not_not.1 fun hc => ?_
  have q := of_decide_eq_false b15
  rw [hmk, markOf_none hc] at q
  exact q rfl
 exact ⟨by rw [signL_of_mem hm, ← hmk], by rw [signL_of_mem hm]; exact H42.pk [0, 1, 2, 3]⟩
def rowW (k : IntKind) (g T n : Nat) (A : List Int) : Ck where
 fp b := b = g
 ok w := A.length = n ∧ w.heap[g]? = some (.cells ⟨A.map (Value.int k)⟩ T (0, 0))
 stay h hb := ⟨h.1, (hb g rfl).trans h.2⟩
 lt h _ hk := hk ▸ heap_lt h.2
section
variable {k : IntKind} {g T n : Nat} {A : List Int} {w w0 w' : World} {G : List Ck}
theorem rowW_len (h : (rowW k g T n A).ok w) : A.length = n := h.1
theorem rowW_cell (h : (rowW k g T n A).ok w) {i o : Nat} (hi : i < n) (ho : o = i) : w.cell? ⟨g, o, none⟩ = some (.int k (A.getD i 0)) := by
 subst ho
 rw [cell_of_heap h.2]
 simp [List.getD_eq_getElem?_getD, List.getElem?_eq_getElem (show o < A.length by rw [h.1]; exact hi)]
theorem rowW_run (h : (rowW k g T n A).ok w) : RunAt w ⟨g, 0, none⟩ (A.map (Value.int k)) := fun j v hj => by
 rw [Addr.add_lit, cell_of_heap h.2]; simpa using hj
theorem Sat.toW (H : Sat w0 G w) (i : Nat) (k : IntKind) (A : List Int) (hi : G[i]? = some (cellC g T (A.map (Value.int k)))) (hn : A.length = n) : Sat w0 (G.set i (rowW k g T n A)) w :=
 H.set i hi ⟨rfl, rfl, rfl, Nat.le_refl _⟩ (fun _ _ _ => rfl) ⟨hn, H.at i hi⟩ (fun _b hb => .inl hb)
theorem Sat.offW (H : Sat w0 G w) (i : Nat) (hi : G[i]? = some (rowW k g T n A)) : Sat w0 (G.set i (cellC g T (A.map (Value.int k)))) w :=
 H.set i hi ⟨rfl, rfl, rfl, Nat.le_refl _⟩ (fun _ _ _ => rfl) (H.at i hi).2 (fun _b hb => .inl hb)
end
section
variable {P : Program} {n : Nat} {f : Nat → Value} {w w0 : World} {dst : Option Tmp} {ty : TypeId} {pos : String} {aft : Array Edge} {gd : Option (Nat × Bool)} {K : Act → World → Prop} {Q : Exit → Act → World → Prop} {G : List Ck}
theorem d_storeW (k : IntKind) {T TA m : Nat} {A : List Int} {g i : Nat} {x y : Operand} {z : Int} {o : Nat} (hd : dst = none) (H : Sat w0 G w) (j : Nat) (hj : G[j]? = some (rowW k g TA m A)) (hx : ev n f x = .pointer (some ⟨g, o, none⟩)) (hy : ev n f y = .int k z) (hN : P.cellsOf T = 1) (ho : o = i) (hi : i < m)
  (kk : ∀ w', Sat w0 (G.set j (rowW k g TA m (A.set i z))) w' → K (fr n f) w') : WO P ⟨dst, .store T x y, ty, pos, aft, gd⟩ K Q n f w := by
 have h := H.at j hj
 subst ho
 have hil : o < A.length := by rw [h.1]; exact hi
 obtain ⟨w', hr, hb, he, hk⟩ := e_store (P := P) (dst := dst) (ty := ty) (pos := pos) (aft := aft) (gd := gd) (vs := [.int k z]) hx hy rfl hN (by simp) h.2 (by simp; omega) (fun v hv => by rw [List.mem_singleton.1 hv]; rfl)
 refine d_skip hd hr (kk w' (H.set j hj he (fun b _ hne => hk b hne) ⟨by simp [h.1], ?_⟩ (fun b hb => .inl hb)))
 have e : splice (A.map (Value.int k)) o [Value.int k z] = (A.set o z).map (Value.int k) := by
  rw [List.set_eq_take_append_cons_drop, if_pos hil]
  simp [splice]
 rw [← e]; exact hb
theorem d_storeWA (k : IntKind) {T TA m : Nat} {A B : List Int} {g : Nat} {x y : Operand} {u : Value} (hd : dst = none) (H : Sat w0 G w) (j : Nat) (hj : G[j]? = some (rowW k g TA m A)) (hx : ev n f x = .pointer (some ⟨g, 0, none⟩)) (hy : ev n f y = u) (hu : u.cells = ⟨B.map (Value.int k)⟩) (hN : P.cellsOf T = m) (hm : 0 < m) (hB : B.length = m)
  (kk : ∀ w', Sat w0 (G.set j (rowW k g TA m B)) w' → K (fr n f) w') : WO P ⟨dst, .store T x y, ty, pos, aft, gd⟩ K Q n f w := by
 have h := H.at j hj
 obtain ⟨w', hr, hb, he, hk⟩ := e_store (P := P) (dst := dst) (ty := ty) (pos := pos) (aft := aft) (gd := gd) (vs := B.map (Value.int k)) hx hy hu (by rw [hN]; simp [hB]) (by simp [hB]; omega) h.2 (by simp [hB, h.1]) (fun v hv => by obtain ⟨z, _, rfl⟩ := List.mem_map.1 hv; rfl)
 refine d_skip hd hr (kk w' (H.set j hj he (fun b _ hne => hk b hne) ⟨hB, ?_⟩ (fun b hb => .inl hb)))
 have e : splice (A.map (Value.int k)) 0 (B.map (Value.int k)) = B.map (Value.int k) := by simp [splice, hB, h.1]
 rw [← e]; exact hb
theorem e_loadWA {k : IntKind} {T TA m g : Nat} {A : List Int} {x : Operand} (hx : ev n f x = .pointer (some ⟨g, 0, none⟩)) (hT : aggTy P T = true) (hN : P.cellsOf T = m) (hm : 0 < m) (h : (rowW k g TA m A).ok w) :
  (execOp (ev n f) ⟨dst, .load T x, ty, pos, aft, gd⟩).run P w = .ok (.value (.agg ⟨A.map (Value.int k)⟩)) w :=
 e_loadRun hx hT (by rw [hN]; simp [h.1]) (by simp [h.1]; omega) (rowW_run h)
theorem list_shape {v : Value} {s : List UInt8} (h : ListAt encB 1 w v s) (h0 : 0 < s.length) : ∃ b o c, v = .slice (some ⟨b, o, none⟩) s.length c := by
 obtain ⟨b, o, c, e, _⟩ := SliceOf.some h h0
 exact ⟨b, o, c, e⟩
theorem list_cell {b o c i p m : Nat} {s : List UInt8} (h : ListAt encB 1 w (.slice (some ⟨b, o, none⟩) m c) s) (hi : i < s.length) (hp : p = o + i) : w.cell? ⟨b, p, none⟩ = some (.int .u8 ((s.getD i 0).toNat : Int)) := by
 obtain ⟨b', o', c', e, _, hr⟩ := SliceOf.some h (by omega)
 simp only [Value.slice.injEq, Option.some.injEq, Addr.mk.injEq] at e
 obtain ⟨⟨rfl, rfl, _⟩, _, _⟩ := e
 have := hr i hi 0 _ rfl
 rw [Addr.add_lit] at this
 rw [hp, show o + i = o + i * 1 + 0 by omega, this, List.getD_eq_getElem?_getD, List.getElem?_eq_getElem hi]; rfl
end
section
variable {α : Type} {enc : α → List Value} {sz : Nat} {w : World} {xs : List α}
theorem ListAt.dropG {a : Option Addr} {n c k : Nat} (h : ListAt enc sz w (.slice a n c) xs) (hk : k ≤ n) : ListAt enc sz w (.slice (if c = k then a else a.map (·.add (k * sz))) (n - k) (c - k)) (xs.drop k) := by
 rcases h with ⟨a', c', e, rfl, hc, ha⟩ | ⟨h0, b', o', c', e, ⟨h1, h2⟩, h⟩
 ·simp only [Value.slice.injEq] at e
  obtain ⟨rfl, rfl, rfl⟩ := e
  obtain rfl : k = 0 := by omega
  refine .inl ⟨_, _, rfl, by simp, by omega, fun q => ?_⟩
  by_cases h0 : c = 0
  ·omega
  ·rw [if_neg h0] at q
   cases a with
   | none => have := ha rfl; omega
   | some ad => cases q
 ·simp only [Value.slice.injEq] at e
  obtain ⟨rfl, rfl, rfl⟩ := e
  have hl : (xs.drop k).length = xs.length - k := List.length_drop
  by_cases hz : k = xs.length
  ·subst hz
   refine .inl ⟨_, c - xs.length, by rw [Nat.sub_self], by simp, by omega, fun q => ?_⟩
   split at q
   ·cases q
   ·cases q
  ·refine .inr ⟨by omega, b', o' + k * sz, c - k, ?_, ⟨by rw [hl]; omega, by omega⟩, fun i hi => ?_⟩
   ·rw [hl, if_neg (by omega), Option.map_some, Addr.add_lit]
   ·rw [List.getElem_drop]
    have := h (k + i) (by rw [hl] at hi; omega)
    rwa [show o' + k * sz + i * sz = o' + (k + i) * sz by rw [Nat.add_mul]; omega]
end
section
variable {P : Program} {n : Nat} {f : Nat → Value} {w : World} {dst : Option Tmp} {ty : TypeId} {pos : String} {aft : Array Edge} {gd : Option (Nat × Bool)}
theorem e_sliceLoG {T E : TypeId} {x y : Operand} {a : Option Addr} {len cap sz : Nat} {k : IntKind} {z : Int} {q : Nat} (hT : P.underlying T = some (.slice E)) (hE : (P.info? E).map (·.size) = some sz) (hx : ev n f x = .slice a len cap) (hy : ev n f y = .int k z) (h1 : z = (q : Int)) (h2 : q ≤ len) :
  (execOp (ev n f) ⟨dst, .slice T x (some y) none none, ty, pos, aft, gd⟩).run P w = .ok (.value (.slice (if cap = q then a else a.map (·.add (q * sz))) (len - q) (cap - q))) w := by
 cases hi : P.info? E with
 | none => rw [hi] at hE; cases hE
 | some inf =>
  rw [hi] at hE
  simp only [Option.map_some, Option.some.injEq] at hE
  subst h1 hE
  have : (Instr.slice T (.slice a len cap) (some (.int k (q : Int))) none none).run P w = .ok (.slice (if cap = q then a else a.map (·.add (q * inf.size))) (len - q) (cap - q)) w := by
   simp [Instr.slice, run_underlying hT, Instr.sliceBounds, Instr.sliceBound, asIntOf, h2, Result.andThen, sizeOf, typeInfo, hi]
  simp only [execOp, Instr.sliceAt, Option.map, hx, hy]
  simp [run_underlying hT, this, Result.andThen]
  cases a <;> rfl
end
end Go.Proofs.YtenihpghfdcpkaaGreat
