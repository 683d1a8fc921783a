/- WHAT IS PROVED: the rest of the program's writer: contracts. Conditions: stated with each. -/
import Derived.Test.YtenihpghfdcpkaaTxtD
import Derived.Test.YtenihpghfdcpkaaWr10
namespace Go.Proofs.Ytenihpghfdcpkaa
open Go.RowKit
theorem ListAt.nowD {α : Type} {enc : α → List Value} {sz : Nat} {w0 w W : World} {G : List Ck} {D : Nat → Prop} (H : Sat w0 G w) (j : Nat) (hj : G[j]? = Option.some (restC W D)) {a : Option Addr} {n c : Nat} {xs : List α} (hv : ListAt enc sz W (.slice a n c) xs) (hf : 0 < xs.length → ∀ ad, a = some ad → ¬ D ad.block) : ListAt enc sz w (.slice a n c) xs := by
  rcases hv with h | ⟨h0, b', o, c', e, hc, h⟩
  · exact .inl h
  · have ha : a = some ⟨b', o, none⟩ := by simp only [Value.slice.injEq] at e; exact e.1
    refine .inr ⟨h0, b', o, c', e, hc, fun i hi q u hq => ?_⟩
    have h1 := h i hi q u hq
    rw [Addr.add_lit] at h1 ⊢
    exact H.cellR j hj h1 (show ¬ D b' from hf h0 _ ha)

set_option maxRecDepth 100000 in
set_option maxHeartbeats 400000 in
theorem wRowL_any (w : World) (r : Nat) (a0 : Option Addr) (c0 : Nat) (B : List UInt8) (hB : (sepC (wrL r a0 c0 B)).ok w) (hl : B.length ≤ 1000000) (ta : Option Addr) (tc : Nat) (tx : List UInt8) (ht : ListAt encB 1 w (.slice ta tx.length tc) tx) (hoff : 0 < tx.length → ∀ ad, ta = some ad → ¬ (sepC (wrL r a0 c0 B)).fp ad.block) (hl2 : tx.length ≤ 1000000) :
    Calls Try.prog 72 #[(.pointer (some ⟨r, 0, none⟩)), (.slice ta tx.length tc)] w fun e w' => ∃ a' c', e = .returned (.pointer (some ⟨r, 0, none⟩)) ∧ Sat w [cellC r 159 [.slice a' (B ++ rowB tx).length c'], rowC 5 1 (.slice a' (B ++ rowB tx).length c') (B ++ rowB tx).length ((B ++ rowB tx).flatMap encB), restC w (sepC (wrL r a0 c0 B)).fp] w' := by
  have H : Sat w [cellC r 159 ([(.slice a0 B.length c0)] : List Value), rowC 5 1 (.slice a0 B.length c0) B.length (B.flatMap encB), restC w (sepC (wrL r a0 c0 B)).fp] w := Sat.start (wrL r a0 c0 B) hB
  have hvl := intB_len (tx.length : Int)
  refine calls_fr Try.func72 rfl 19 rfl (Nat.le_of_ble_eq_true rfl) ?_
  refine w_seq ?_
  refine w_lit ?_
  refine wl_pure (wants0 rfl) (d := 4) (v := (.pointer none)) rfl (by kernel_rfl) ?_
  refine w_nil ?_
  refine then_normal ?_
  refine w_seq ?_
  refine w_lit ?_
  refine wl_pure (wants0 rfl) (d := 5) (v := (.pointer (some ⟨r, 0, none⟩))) rfl (by kernel_rfl) ?_
  refine wl_pure (wants0 rfl) (d := 6) (v := (.slice ta tx.length tc)) rfl (by kernel_rfl) ?_
  refine wl_pure (wants0 rfl) (d := 7) (v := (.int .i64 ((tx.length : Int)))) rfl (by kernel_rfl) ?_
  refine wl_do (wants0 rfl) (fun K1 hK1 => ?_)
  have l7 := intB_len (tx.length : Int)
  refine d_call (d := 8) rfl (by kernel_rfl) (wInt_any w r a0 c0 B (H.fin [0, 1] (by decide) rfl) (by omega) (tx.length : Int) (by omega)) ?_
  rintro _ w2 ⟨a4, c5, rfl, T3⟩
  have H8 : Sat w [cellC r 159 ([(.slice a4 ((B ++ intB (tx.length : Int)).length) c5)] : List Value), rowC 5 1 (.slice a4 ((B ++ intB (tx.length : Int)).length) c5) ((B ++ intB (tx.length : Int)).length) ((B ++ intB (tx.length : Int)).flatMap encB), restC w (sepC (wrL r a0 c0 B)).fp] w2 := (Sat.turnL (L' := [cellC r 159 ([(.slice a4 ((B ++ intB (tx.length : Int)).length) c5)] : List Value), rowC 5 1 (.slice a4 ((B ++ intB (tx.length : Int)).length) c5) ((B ++ intB (tx.length : Int)).length) ((B ++ intB (tx.length : Int)).flatMap encB)]) (R := [restC w (sepC (wrL r a0 c0 B)).fp]) H [0, 1] [2] (by decide) (by kernel_rfl) rfl T3).pick [0, 1, 2] (by decide)
  refine ⟨_, rfl, ?_⟩
  refine hK1 _ _ ?_
  clear hK1 K1
  refine w_nil ?_
  refine then_normal ?_
  refine w_seq ?_
  refine w_lit ?_
  refine wl_pure (wants0 rfl) (d := 9) (v := (.pointer (some ⟨r, 0, none⟩))) rfl (by kernel_rfl) ?_
  refine wl_pure (wants0 rfl) (d := 10) (v := (.pointer (some ⟨r, 0, none⟩))) rfl (by kernel_rfl) ?_
  refine wl_pure (wants0 rfl) (d := 11) (v := (.pointer (some ⟨r, 0, none⟩))) rfl (by kernel_rfl) ?_
  refine wl_pure (wants0 rfl) (d := 12) (v := (.pointer (some ⟨r, 0, none⟩))) rfl (by kernel_rfl) ?_
  refine wl_pure (wants0 rfl) (d := 13) (v := (.slice a4 ((B ++ intB (tx.length : Int)).length) c5)) rfl (e_load1 rfl (by kernel_rfl) (H8.cell 0 rfl rfl)) ?_
  refine wl_pure (wants0 rfl) (d := 14) (v := (.slice ta tx.length tc)) rfl (by kernel_rfl) ?_
  refine wl_do (wants0 rfl) (fun K9 hK9 => ?_)
  refine d_appendL (T := 81) (e := 5) (size := 1) (bytes := 1) rfl H8 (by kernel_rfl) encB_len encB_one 1 rfl (ListAt.nowD H8 2 rfl ht hoff) rfl rfl (by simp only [List.length_append]; omega) (by simp only [List.length_append]; omega) ?_
  intro v10 w11 (H13 : Sat w [cellC r 159 ([(.slice a4 ((B ++ intB (tx.length : Int)).length) c5)] : List Value), rowC 5 1 v10 ((B ++ intB (tx.length : Int)).length + tx.length) ((B ++ intB (tx.length : Int)).flatMap encB ++ tx.flatMap encB), restC w (sepC (wrL r a0 c0 B)).fp] w11)
  have H12 : Sat w [cellC r 159 ([(.slice a4 ((B ++ intB (tx.length : Int)).length) c5)] : List Value), rowC 5 1 v10 (((B ++ intB (tx.length : Int)) ++ tx).length) (((B ++ intB (tx.length : Int)) ++ tx).flatMap encB), restC w (sepC (wrL r a0 c0 B)).fp] w11 := H13.cast (by simp only [List.length_append, List.flatMap_append])
  obtain ⟨a14, c15, rfl⟩ := ownsRow_shape (H12.at 1 rfl)
  refine hK9 _ _ ?_
  clear hK9 K9
  refine wl_pure (wants0 rfl) (d := 16) (v := (.pointer (some ⟨r, 0, none⟩))) rfl (by kernel_rfl) ?_
  refine wl_pure (wants0 rfl) (d := 17) (v := (.pointer (some ⟨r, 0, none⟩))) rfl (by kernel_rfl) ?_
  refine wl_do (wants0 rfl) (fun K16 hK16 => ?_)
  refine d_store (vs := ([(.slice a14 (((B ++ intB (tx.length : Int)) ++ tx).length) c15)] : List Value)) rfl H12 0 rfl rfl rfl rfl (by kernel_rfl) (Nat.le_of_ble_eq_true (by kernel_rfl)) (Nat.le_of_ble_eq_true (by kernel_rfl)) (by kernel_rfl) ?_
  intro w17 (H18 : Sat w [cellC r 159 ([(.slice a14 (((B ++ intB (tx.length : Int)) ++ tx).length) c15)] : List Value), rowC 5 1 (.slice a14 (((B ++ intB (tx.length : Int)) ++ tx).length) c15) (((B ++ intB (tx.length : Int)) ++ tx).length) (((B ++ intB (tx.length : Int)) ++ tx).flatMap encB), restC w (sepC (wrL r a0 c0 B)).fp] w17)
  refine hK16 _ _ ?_
  clear hK16 K16
  refine w_nil ?_
  refine then_normal ?_
  refine w_seq ?_
  refine w_lit ?_
  refine wl_pure (wants0 rfl) (d := 18) (v := (.pointer (some ⟨r, 0, none⟩))) rfl (by kernel_rfl) ?_
  refine wl_pure (wants0 rfl) (d := 4) (v := (.pointer (some ⟨r, 0, none⟩))) rfl (by kernel_rfl) ?_
  refine w_nil ?_
  refine then_normal ?_
  refine w_ret ?_
  refine end1 rfl (res_tmp (v := (.pointer (some ⟨r, 0, none⟩))) rfl) ?_
  have hX : ((B ++ intB (tx.length : Int)) ++ tx) = (B ++ rowB tx) := by unfold rowB intB; rw [show (max 0 (tx.length : Int)).toNat = tx.length by omega, List.append_assoc]
  exact ⟨a14, c15, rfl, (H18.pick [0, 1, 2] (by decide)).cast (by show [_, _, _] = _; rw [hX])⟩

set_option maxRecDepth 100000 in
set_option maxHeartbeats 400000 in
theorem wNew_any (w : World) :
    Calls Try.prog 71 #[] w fun e w' => ∃ r a c, e = .returned (.pointer (some ⟨r, 0, none⟩)) ∧ (sepC (wrL r a c [])).ok w' ∧ Upd [] w w' ∧ ∀ q_, (sepC (wrL r a c [])).fp q_ → w.heap.size ≤ q_ := by
  have H := Sat.start0 w
  refine calls_fr Try.func71 rfl 3 rfl (Nat.le_of_ble_eq_true rfl) ?_
  refine w_seq ?_
  refine w_lit ?_
  refine wl_pure (wants0 rfl) (d := 0) (v := (.pointer none)) rfl (by kernel_rfl) ?_
  refine w_nil ?_
  refine then_normal ?_
  refine w_seq ?_
  refine w_lit ?_
  refine wl_pure (wants0 rfl) (d := 1) (v := (.agg ⟨([(.slice none 0 0)] : List Value)⟩)) rfl (by kernel_rfl) ?_
  refine wl_do (wants0 rfl) (fun K1 hK1 => ?_)
  refine d_box (vs := ([(.slice none 0 0)] : List Value)) rfl H rfl rfl ?_
  intro b2 w3 (H4 : Sat w [restC w (fun _ => False), cellC b2 159 ([(.slice none 0 0)] : List Value)] w3)
  refine hK1 _ _ ?_
  clear hK1 K1
  refine wl_pure (wants0 rfl) (d := 0) (v := (.pointer (some ⟨b2, 0, none⟩))) rfl (by kernel_rfl) ?_
  refine w_nil ?_
  refine then_normal ?_
  refine w_ret ?_
  refine end1 rfl (res_tmp (v := (.pointer (some ⟨b2, 0, none⟩))) rfl) ?_
  have H5 := H4.addNil 5 1
  exact ⟨b2, none, 0, rfl, H5.fin [1, 2] (by decide) rfl, H5.upd 0 rfl [] (fun _ h => h.elim), H5.freshS 0 rfl (fun _ h => h) [1, 2] rfl rfl⟩

end Go.Proofs.Ytenihpghfdcpkaa
