/- WHAT IS PROVED: RegistryPlays: its walk. Conditions: stated with each. -/
import Derived.Test.YtjlbabikogdknaaPlay18
import Derived.Test.YtjlbabikogdknaaCopies18
namespace Go.Proofs.Ytjlbabikogdknaa
open Go.RowKit

set_option maxRecDepth 100000 in
set_option maxHeartbeats 400000 in
theorem plays18_all (w : World) (va : Option Addr) (vc : Nat) (ls : List ActS) (hls : ListAt encA 3 w (.slice va ls.length vc) ls) (hal : ∀ x ∈ ls, x.s.length ≤ 9223372036854775807) (vb : Option Addr) (vd : Nat) (ms : List ActS) (hms : ListAt encA 3 w (.slice vb ms.length vd) ms) (ham : ∀ x ∈ ms, x.s.length ≤ 9223372036854775807) :
    Calls Try.prog 6 #[(.slice va ls.length vc), (.slice vb ms.length vd)] w fun e w' => e = .returned (.bool true) ∧ Upd [] w w' := by
  have H := Sat.start0 w
  refine calls_fr Try.func6 rfl 42 rfl (Nat.le_of_ble_eq_true rfl) ?_
  refine w_seq ?_
  refine w_lit ?_
  refine wl_pure (wants0 rfl) (d := 4) (v := (.bool false)) rfl (by kernel_rfl) ?_
  refine w_nil ?_
  refine then_normal ?_
  refine w_seq ?_
  refine w_lit ?_
  refine wl_do (wants0 rfl) (fun K1 hK1 => ?_)
  refine d_call (d := 9) rfl (by kernel_rfl) (new_any w) ?_
  rintro _ w4 ⟨r2, b3, rfl, k5, u6, p7, q8⟩
  have H9 : Sat w [restC w (fun _ => False), regC r2 b3 []] w4 := H.addU u6 k5 (fun x hx => by simp [regC, regL, sepC, cellC, mapC] at hx; omega)
  have H10 : Sat w [restC w (fun _ => False), cellC r2 52 ([(.map (some b3))] : List Value), mapC b3 strV (Value.int .i64) []] w4 := H9.open 1 rfl
  refine ⟨_, rfl, ?_⟩
  refine hK1 _ _ ?_
  clear hK1 K1
  refine wl_pure (wants0 rfl) (d := 10) (v := (.agg ⟨([(.slice none 0 0)] : List Value)⟩)) rfl (by kernel_rfl) ?_
  refine wl_do (wants0 rfl) (fun K11 hK11 => ?_)
  refine d_box (vs := ([(.slice none 0 0)] : List Value)) rfl H10 rfl rfl ?_
  intro b12 w13 (H14 : Sat w [restC w (fun _ => False), cellC r2 52 ([(.map (some b3))] : List Value), mapC b3 strV (Value.int .i64) [], cellC b12 46 ([(.slice none 0 0)] : List Value)] w13)
  refine hK11 _ _ ?_
  clear hK11 K11
  refine wl_pure (wants0 rfl) (d := 5) (v := (.pointer (some ⟨r2, 0, none⟩))) rfl (by kernel_rfl) ?_
  refine wl_pure (wants0 rfl) (d := 6) (v := (.pointer (some ⟨b12, 0, none⟩))) rfl (by kernel_rfl) ?_
  refine w_nil ?_
  refine then_normal ?_
  refine w_seq ?_
  refine w_seq ?_
  have H15 : Sat w [restC w (fun _ => False), cellC r2 52 ([(.map (some b3))] : List Value), mapC b3 strV (Value.int .i64) [], cellC b12 46 ([(.slice none (([] : RegL).length) 0)] : List Value), rowC 61 2 (.slice none (([] : RegL).length) 0) (([] : RegL).length) (([] : RegL).flatMap encO)] w13 := H14.addU (Upd.refl _ _) (World.ownsRow_nil _ 0 61 2) (fun _ h => by simp [rowC, Value.ownBlock] at h)
  refine w_lit ?_
  refine wl_pure (wants0 rfl) (d := 12) (v := (.pointer (some ⟨r2, 0, none⟩))) rfl (by kernel_rfl) ?_
  refine wl_pure (wants0 rfl) (d := 13) (v := (.bool false)) rfl (by kernel_rfl) ?_
  refine wl_pure (wants0 rfl) (d := 14) (v := (.bool false)) rfl (by kernel_rfl) ?_
  refine wl_pure (wantsY 2 14 false rfl (by kernel_rfl) rfl (by kernel_rfl)) (d := 15) (v := (.pointer (some ⟨r2, 0, none⟩))) rfl (by kernel_rfl) ?_
  refine wl_pure (wantsY 2 14 false rfl (by kernel_rfl) rfl (by kernel_rfl)) (d := 16) (v := (.pointer (some ⟨b12, 0, none⟩))) rfl (by kernel_rfl) ?_
  refine wl_pure (wantsY 2 14 false rfl (by kernel_rfl) rfl (by kernel_rfl)) (d := 17) (v := (.slice va ls.length vc)) rfl (by kernel_rfl) ?_
  refine wl_do (wantsY 2 14 false rfl (by kernel_rfl) rfl (by kernel_rfl)) (fun K16 hK16 => ?_)
  refine d_call (d := 18) rfl (by kernel_rfl) (play18_any w13 r2 b3 ([]) b12 none 0 ([] : RegL) (H15.fin [1, 2, 3, 4] (by decide) rfl) Short.nil (List.Perm.refl _) List.Pairwise.nil va vc ls (ListAt.now H15 0 rfl hls) hal (acts_off H15 [1, 2, 3, 4] 0 rfl rfl (by decide) hls)) ?_
  rintro _ w17 ⟨M18, a19, c20, L21, rfl, T22, m23, p24, s25⟩
  have H26 : Sat w [restC w (fun _ => False), cellC r2 52 ([(.map (some b3))] : List Value), mapC b3 strV (Value.int .i64) M18, cellC b12 46 ([(.slice a19 L21.length c20)] : List Value), rowC 61 2 (.slice a19 L21.length c20) L21.length (L21.flatMap encO)] w17 := (Sat.turnL (L' := [cellC r2 52 ([(.map (some b3))] : List Value), mapC b3 strV (Value.int .i64) M18, cellC b12 46 ([(.slice a19 L21.length c20)] : List Value), rowC 61 2 (.slice a19 L21.length c20) L21.length (L21.flatMap encO)]) (R := [restC w (fun _ => False)]) H15 [1, 2, 3, 4] [0] (by decide) (by kernel_rfl) rfl T22).pick [4, 0, 1, 2, 3] (by decide)
  refine ⟨_, rfl, ?_⟩
  refine hK16 _ _ ?_
  clear hK16 K16
  refine wl_pure (wantsY 2 14 false rfl (by kernel_rfl) rfl (by kernel_rfl)) (d := 19) (v := (.bool false)) rfl (by kernel_rfl) ?_
  refine wl_pure (wants0 rfl) (d := 20) (v := (.bool false)) rfl (by kernel_rfl) ?_
  refine w_nil ?_
  refine then_normal ?_
  refine wp_iff rfl ?_
  refine w_skip ?_
  refine then_normal ?_
  refine w_seq ?_
  refine w_lit ?_
  refine wl_pure (wants0 rfl) (d := 21) (v := (.pointer (some ⟨r2, 0, none⟩))) rfl (by kernel_rfl) ?_
  refine wl_do (wants0 rfl) (fun K27 hK27 => ?_)
  refine d_call (d := 22) rfl (by kernel_rfl) (clone18_any w17 r2 b3 M18 (H26.fin [1, 2] (by decide) rfl)) ?_
  rintro _ w28 ⟨r29, b30, rfl, T31⟩
  have H32 : Sat w [restC w (fun _ => False), cellC r2 52 ([(.map (some b3))] : List Value), mapC b3 strV (Value.int .i64) M18, cellC b12 46 ([(.slice a19 L21.length c20)] : List Value), rowC 61 2 (.slice a19 L21.length c20) L21.length (L21.flatMap encO), cellC r29 52 ([(.map (some b30))] : List Value), mapC b30 strV (Value.int .i64) M18] w28 := (Sat.turnL (L' := [cellC r2 52 ([(.map (some b3))] : List Value), mapC b3 strV (Value.int .i64) M18, cellC r29 52 ([(.map (some b30))] : List Value), mapC b30 strV (Value.int .i64) M18]) (R := [restC w (fun _ => False), cellC b12 46 ([(.slice a19 L21.length c20)] : List Value), rowC 61 2 (.slice a19 L21.length c20) L21.length (L21.flatMap encO)]) H26 [1, 2] [0, 3, 4] (by decide) (by kernel_rfl) rfl T31).pick [4, 0, 1, 5, 6, 2, 3] (by decide)
  refine ⟨_, rfl, ?_⟩
  refine hK27 _ _ ?_
  clear hK27 K27
  refine wl_pure (wants0 rfl) (d := 23) (v := (.pointer (some ⟨b12, 0, none⟩))) rfl (by kernel_rfl) ?_
  refine wl_do (wants0 rfl) (fun K33 hK33 => ?_)
  refine d_call (d := 24) rfl (by kernel_rfl) (rCopy_any w28 b12 a19 c20 L21 (H32.fin [3, 4] (by decide) rfl) (by have q1 := p24.length_eq; have q2 := (m23).1; omega)) ?_
  rintro _ w34 ⟨r35, a36, c37, rfl, T38⟩
  have H39 : Sat w [restC w (fun _ => False), cellC r2 52 ([(.map (some b3))] : List Value), mapC b3 strV (Value.int .i64) M18, cellC b12 46 ([(.slice a19 L21.length c20)] : List Value), rowC 61 2 (.slice a19 L21.length c20) L21.length (L21.flatMap encO), cellC r29 52 ([(.map (some b30))] : List Value), mapC b30 strV (Value.int .i64) M18, cellC r35 46 ([(.slice a36 L21.length c37)] : List Value), rowC 61 2 (.slice a36 L21.length c37) L21.length (L21.flatMap encO)] w34 := (Sat.turnL (L' := [cellC b12 46 ([(.slice a19 L21.length c20)] : List Value), rowC 61 2 (.slice a19 L21.length c20) L21.length (L21.flatMap encO), cellC r35 46 ([(.slice a36 L21.length c37)] : List Value), rowC 61 2 (.slice a36 L21.length c37) L21.length (L21.flatMap encO)]) (R := [restC w (fun _ => False), cellC r2 52 ([(.map (some b3))] : List Value), mapC b3 strV (Value.int .i64) M18, cellC r29 52 ([(.map (some b30))] : List Value), mapC b30 strV (Value.int .i64) M18]) H32 [3, 4] [0, 1, 2, 5, 6] (by decide) (by kernel_rfl) rfl T38).pick [4, 5, 6, 0, 1, 7, 8, 2, 3] (by decide)
  refine ⟨_, rfl, ?_⟩
  refine hK33 _ _ ?_
  clear hK33 K33
  refine wl_pure (wants0 rfl) (d := 7) (v := (.pointer (some ⟨r29, 0, none⟩))) rfl (by kernel_rfl) ?_
  refine wl_pure (wants0 rfl) (d := 8) (v := (.pointer (some ⟨r35, 0, none⟩))) rfl (by kernel_rfl) ?_
  refine w_nil ?_
  refine then_normal ?_
  refine w_seq ?_
  refine w_lit ?_
  refine wl_pure (wants0 rfl) (d := 25) (v := (.pointer (some ⟨r29, 0, none⟩))) rfl (by kernel_rfl) ?_
  refine wl_pure (wants0 rfl) (d := 26) (v := (.bool true)) rfl (by kernel_rfl) ?_
  refine wl_pure (wants0 rfl) (d := 27) (v := (.bool true)) rfl (by kernel_rfl) ?_
  refine wl_pure (wantsY 2 27 true rfl (by kernel_rfl) rfl (by kernel_rfl)) (d := 28) (v := (.pointer (some ⟨r29, 0, none⟩))) rfl (by kernel_rfl) ?_
  refine wl_pure (wantsY 2 27 true rfl (by kernel_rfl) rfl (by kernel_rfl)) (d := 29) (v := (.pointer (some ⟨r35, 0, none⟩))) rfl (by kernel_rfl) ?_
  refine wl_pure (wantsY 2 27 true rfl (by kernel_rfl) rfl (by kernel_rfl)) (d := 30) (v := (.slice vb ms.length vd)) rfl (by kernel_rfl) ?_
  refine wl_do (wantsY 2 27 true rfl (by kernel_rfl) rfl (by kernel_rfl)) (fun K40 hK40 => ?_)
  refine d_call (d := 31) rfl (by kernel_rfl) (play18_any w34 r29 b30 M18 r35 a36 c37 L21 (H39.fin [5, 6, 7, 8] (by decide) rfl) m23 p24 s25 vb vd ms (ListAt.now H39 0 rfl hms) ham (acts_off H39 [5, 6, 7, 8] 0 rfl rfl (by decide) hms)) ?_
  rintro _ w41 ⟨M42, a43, c44, L45, rfl, T46, m47, p48, s49⟩
  have H50 : Sat w [restC w (fun _ => False), cellC r2 52 ([(.map (some b3))] : List Value), mapC b3 strV (Value.int .i64) M18, cellC b12 46 ([(.slice a19 L21.length c20)] : List Value), rowC 61 2 (.slice a19 L21.length c20) L21.length (L21.flatMap encO), cellC r29 52 ([(.map (some b30))] : List Value), mapC b30 strV (Value.int .i64) M42, cellC r35 46 ([(.slice a43 L45.length c44)] : List Value), rowC 61 2 (.slice a43 L45.length c44) L45.length (L45.flatMap encO)] w41 := (Sat.turnL (L' := [cellC r29 52 ([(.map (some b30))] : List Value), mapC b30 strV (Value.int .i64) M42, cellC r35 46 ([(.slice a43 L45.length c44)] : List Value), rowC 61 2 (.slice a43 L45.length c44) L45.length (L45.flatMap encO)]) (R := [restC w (fun _ => False), cellC r2 52 ([(.map (some b3))] : List Value), mapC b3 strV (Value.int .i64) M18, cellC b12 46 ([(.slice a19 L21.length c20)] : List Value), rowC 61 2 (.slice a19 L21.length c20) L21.length (L21.flatMap encO)]) H39 [5, 6, 7, 8] [0, 1, 2, 3, 4] (by decide) (by kernel_rfl) rfl T46).pick [4, 5, 6, 7, 8, 0, 1, 2, 3] (by decide)
  refine ⟨_, rfl, ?_⟩
  refine hK40 _ _ ?_
  clear hK40 K40
  refine wl_pure (wants0 rfl) (d := 32) (v := (.bool true)) rfl (by kernel_rfl) ?_
  refine wl_pure (wants0 rfl) (d := 33) (v := (.bool true)) rfl (by kernel_rfl) ?_
  refine wl_pure (wantsY 8 33 true rfl (by kernel_rfl) rfl (by kernel_rfl)) (d := 34) (v := (.pointer (some ⟨r2, 0, none⟩))) rfl (by kernel_rfl) ?_
  refine wl_pure (wantsY 8 33 true rfl (by kernel_rfl) rfl (by kernel_rfl)) (d := 35) (v := (.pointer (some ⟨b12, 0, none⟩))) rfl (by kernel_rfl) ?_
  refine wl_pure (wantsY 8 33 true rfl (by kernel_rfl) rfl (by kernel_rfl)) (d := 36) (v := (.slice va ls.length vc)) rfl (by kernel_rfl) ?_
  refine wl_do (wantsY 8 33 true rfl (by kernel_rfl) rfl (by kernel_rfl)) (fun K51 hK51 => ?_)
  refine d_call (d := 37) rfl (by kernel_rfl) (play18_any w41 r2 b3 M18 b12 a19 c20 L21 (H50.fin [1, 2, 3, 4] (by decide) rfl) m23 p24 s25 va vc ls (ListAt.now H50 0 rfl hls) hal (acts_off H50 [1, 2, 3, 4] 0 rfl rfl (by decide) hls)) ?_
  rintro _ w52 ⟨M53, a54, c55, L56, rfl, T57, m58, p59, s60⟩
  have H61 : Sat w [restC w (fun _ => False), cellC r2 52 ([(.map (some b3))] : List Value), mapC b3 strV (Value.int .i64) M53, cellC b12 46 ([(.slice a54 L56.length c55)] : List Value), rowC 61 2 (.slice a54 L56.length c55) L56.length (L56.flatMap encO), cellC r29 52 ([(.map (some b30))] : List Value), mapC b30 strV (Value.int .i64) M42, cellC r35 46 ([(.slice a43 L45.length c44)] : List Value), rowC 61 2 (.slice a43 L45.length c44) L45.length (L45.flatMap encO)] w52 := (Sat.turnL (L' := [cellC r2 52 ([(.map (some b3))] : List Value), mapC b3 strV (Value.int .i64) M53, cellC b12 46 ([(.slice a54 L56.length c55)] : List Value), rowC 61 2 (.slice a54 L56.length c55) L56.length (L56.flatMap encO)]) (R := [restC w (fun _ => False), cellC r29 52 ([(.map (some b30))] : List Value), mapC b30 strV (Value.int .i64) M42, cellC r35 46 ([(.slice a43 L45.length c44)] : List Value), rowC 61 2 (.slice a43 L45.length c44) L45.length (L45.flatMap encO)]) H50 [1, 2, 3, 4] [0, 5, 6, 7, 8] (by decide) (by kernel_rfl) rfl T57).pick [4, 0, 1, 2, 3, 5, 6, 7, 8] (by decide)
  refine ⟨_, rfl, ?_⟩
  refine hK51 _ _ ?_
  clear hK51 K51
  refine wl_pure (wants0 rfl) (d := 38) (v := (.bool true)) rfl (by kernel_rfl) ?_
  refine wl_pure (wants0 rfl) (d := 39) (v := (.bool true)) rfl (by kernel_rfl) ?_
  refine wl_do (wantsY 14 39 true rfl (by kernel_rfl) rfl (by kernel_rfl)) (fun K62 hK62 => ?_)
  refine d_call (d := 40) rfl (by kernel_rfl) (wakes_any w52) ?_
  rintro _ w63 ⟨rfl, u65⟩
  have H64 := H61.keepU u65
  refine ⟨_, rfl, ?_⟩
  refine hK62 _ _ ?_
  clear hK62 K62
  refine wl_pure (wants0 rfl) (d := 41) (v := (.bool true)) rfl (by kernel_rfl) ?_
  refine wl_pure (wants0 rfl) (d := 4) (v := (.bool true)) rfl (by kernel_rfl) ?_
  refine w_nil ?_
  refine then_normal ?_
  refine w_ret ?_
  refine end1 rfl (res_tmp (v := (.bool true)) rfl) ?_
  exact ⟨rfl, H64.upd 0 rfl [] (fun _ h => h.elim)⟩

end Go.Proofs.Ytjlbabikogdknaa
