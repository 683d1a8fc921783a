/- WHAT IS PROVED: BookPlays: its walk. Conditions: stated with each. -/
import Derived.Test.YtjcoeokmoibppaaPlay03
import Derived.Test.YtjcoeokmoibppaaClone
import Derived.Test.YtjcoeokmoibppaaWakes03
namespace Go.Proofs.Ytjcoeokmoibppaa
open Go.RowKit

def rb2L (r : Nat) (a : Option Addr) (c : Nat) (L : List Signed) : List Ck := [cellC r 44 [.slice a L.length c], rowC 60 2 (.slice a L.length c) L.length (L.flatMap encS)]
set_option maxRecDepth 100000 in
set_option maxHeartbeats 400000 in
theorem rCopy03_any (w : World) (r : Nat) (a : Option Addr) (c : Nat) (L : List Signed) (hB : (sepC (rb2L r a c L)).ok w) (hl : L.length ≤ 100000) :
    Calls Try.prog 17 #[(.pointer (some ⟨r, 0, none⟩))] w fun e w' => ∃ r2 a2 c2, e = .returned (.pointer (some ⟨r2, 0, none⟩)) ∧ Sat w [cellC r 44 [.slice a L.length c], rowC 60 2 (.slice a L.length c) L.length (L.flatMap encS), cellC r2 44 [.slice a2 L.length c2], rowC 60 2 (.slice a2 L.length c2) L.length (L.flatMap encS), restC w (sepC (rb2L r a c L)).fp] w' := by
  have H : Sat w [cellC r 44 ([(.slice a L.length c)] : List Value), rowC 60 2 (.slice a L.length c) L.length (L.flatMap encS), restC w (sepC (rb2L r a c L)).fp] w := Sat.start (rb2L r a c L) hB
  refine calls_fr Try.func17 rfl 10 rfl (Nat.le_of_ble_eq_true rfl) ?_
  refine w_seq ?_
  refine w_lit ?_
  refine wl_pure (wants0 rfl) (d := 2) (v := (.pointer none)) rfl (by kernel_rfl) ?_
  refine w_nil ?_
  refine then_normal ?_
  refine w_seq ?_
  refine w_lit ?_
  refine wl_pure (wants0 rfl) (d := 3) (v := (.pointer (some ⟨r, 0, none⟩))) rfl (by kernel_rfl) ?_
  refine wl_pure (wants0 rfl) (d := 4) (v := (.pointer (some ⟨r, 0, none⟩))) rfl (by kernel_rfl) ?_
  refine wl_pure (wants0 rfl) (d := 5) (v := (.pointer (some ⟨r, 0, none⟩))) rfl (by kernel_rfl) ?_
  refine wl_pure (wants0 rfl) (d := 6) (v := (.slice a L.length c)) rfl (e_load1 rfl (by kernel_rfl) (H.cell 0 rfl rfl)) ?_
  refine wl_do (wants0 rfl) (fun K1 hK1 => ?_)
  refine d_appendNil (T := 42) (e := 60) (size := 2) (bytes := 24) rfl H (by kernel_rfl) (H.at 1 rfl) rfl rfl (flat_one encS encS_one L) (by omega) (by omega) ?_
  intro v2 w3 (H4 : Sat w [cellC r 44 ([(.slice a L.length c)] : List Value), rowC 60 2 (.slice a L.length c) L.length (L.flatMap encS), restC w (sepC (rb2L r a c L)).fp, rowC 60 2 v2 L.length (L.flatMap encS)] w3)
  obtain ⟨a5, c6, rfl⟩ := ownsRow_shape (H4.at 3 rfl)
  refine hK1 _ _ ?_
  clear hK1 K1
  refine wl_pure (wants0 rfl) (d := 8) (v := (.agg ⟨([(.slice a5 L.length c6)] : List Value)⟩)) rfl (by kernel_rfl) ?_
  refine wl_do (wants0 rfl) (fun K7 hK7 => ?_)
  refine d_box (vs := ([(.slice a5 L.length c6)] : List Value)) rfl H4 rfl rfl ?_
  intro b8 w9 (H10 : Sat w [cellC r 44 ([(.slice a L.length c)] : List Value), rowC 60 2 (.slice a L.length c) L.length (L.flatMap encS), restC w (sepC (rb2L r a c L)).fp, rowC 60 2 (.slice a5 L.length c6) L.length (L.flatMap encS), cellC b8 44 ([(.slice a5 L.length c6)] : List Value)] w9)
  refine hK7 _ _ ?_
  clear hK7 K7
  refine wl_pure (wants0 rfl) (d := 2) (v := (.pointer (some ⟨b8, 0, none⟩))) rfl (by kernel_rfl) ?_
  refine w_nil ?_
  refine then_normal ?_
  refine w_ret ?_
  refine end1 rfl (res_tmp (v := (.pointer (some ⟨b8, 0, none⟩))) rfl) ?_
  exact ⟨b8, a5, c6, rfl, H10.pick [0, 1, 4, 3, 2] (by decide)⟩

set_option maxRecDepth 100000 in
set_option maxHeartbeats 400000 in
theorem plays03_all (w : World) (va : Option Addr) (vc : Nat) (ls : List ActT) (hls : ListAt encT 5 w (.slice va ls.length vc) ls) (hal : ∀ x ∈ ls, ListAt encB 1 w (.slice x.a x.s.length x.c) x.s) (vb : Option Addr) (vd : Nat) (ms : List ActT) (hms : ListAt encT 5 w (.slice vb ms.length vd) ms) (ham : ∀ x ∈ ms, ListAt encB 1 w (.slice x.a x.s.length x.c) x.s) :
    Calls Try.prog 6 #[(.slice va ls.length vc), (.slice vb ms.length vd)] w fun e w' => e = .returned (.bool true) ∧ Upd [] w w' := by
  have H := Sat.start0 w
  refine calls_fr Try.func6 rfl 40 rfl (Nat.le_of_ble_eq_true rfl) ?_
  refine w_seq ?_
  refine w_lit ?_
  refine wl_pure (wants0 rfl) (d := 4) (v := (.bool false)) rfl (by kernel_rfl) ?_
  refine w_nil ?_
  refine then_normal ?_
  refine w_seq ?_
  refine w_lit ?_
  refine wl_do (wants0 rfl) (fun K1 hK1 => ?_)
  refine d_call (d := 9) rfl (by kernel_rfl) (new_any w) ?_
  rintro _ w4 ⟨b2, m3, rfl, k5, u6, p7, q8⟩
  have H9 : Sat w [restC w (fun _ => False), bookC b2 m3 ([] : List Signed)] w4 := H.addU u6 k5 (fun k hk => by rcases hk with rfl | rfl <;> assumption)
  refine ⟨_, rfl, ?_⟩
  refine hK1 _ _ ?_
  clear hK1 K1
  refine wl_pure (wants0 rfl) (d := 5) (v := (.pointer (some ⟨b2, 0, none⟩))) rfl (by kernel_rfl) ?_
  refine w_nil ?_
  refine then_normal ?_
  refine w_seq ?_
  refine w_seq ?_
  refine w_lit ?_
  refine wl_pure (wants0 rfl) (d := 10) (v := (.pointer (some ⟨b2, 0, none⟩))) rfl (by kernel_rfl) ?_
  refine wl_pure (wants0 rfl) (d := 11) (v := (.bool false)) rfl (by kernel_rfl) ?_
  refine w_nil ?_
  refine then_normal ?_
  refine wp_iff rfl ?_
  refine w_skip ?_
  refine then_normal ?_
  refine w_seq ?_
  refine w_lit ?_
  refine wl_pure (wants0 rfl) (d := 12) (v := (.agg ⟨([(.slice none 0 0)] : List Value)⟩)) rfl (by kernel_rfl) ?_
  refine wl_do (wants0 rfl) (fun K10 hK10 => ?_)
  refine d_box (vs := ([(.slice none 0 0)] : List Value)) rfl H9 rfl rfl ?_
  intro b11 w12 (H13 : Sat w [restC w (fun _ => False), bookC b2 m3 ([] : List Signed), cellC b11 44 ([(.slice none 0 0)] : List Value)] w12)
  refine hK10 _ _ ?_
  clear hK10 K10
  refine wl_pure (wants0 rfl) (d := 6) (v := (.pointer (some ⟨b11, 0, none⟩))) rfl (by kernel_rfl) ?_
  refine w_nil ?_
  refine then_normal ?_
  refine w_seq ?_
  refine w_seq ?_
  have H14 : Sat w [restC w (fun _ => False), bookC b2 m3 ([] : List Signed), cellC b11 44 ([(.slice none (([] : List Signed).length) 0)] : List Value), rowC 60 2 (.slice none (([] : List Signed).length) 0) (([] : List Signed).length) (([] : List Signed).flatMap encS)] w12 := H13.addU (Upd.refl _ _) (World.ownsRow_nil _ 0 60 2) (fun _ h => by simp [rowC, Value.ownBlock] at h)
  refine w_lit ?_
  refine wl_pure (wants0 rfl) (d := 14) (v := (.pointer (some ⟨b2, 0, none⟩))) rfl (by kernel_rfl) ?_
  refine wl_pure (wants0 rfl) (d := 15) (v := (.pointer (some ⟨b11, 0, none⟩))) rfl (by kernel_rfl) ?_
  refine wl_pure (wants0 rfl) (d := 16) (v := (.slice va ls.length vc)) rfl (by kernel_rfl) ?_
  refine wl_do (wants0 rfl) (fun K15 hK15 => ?_)
  refine d_call (d := 17) rfl (by kernel_rfl) (play03_any w12 b2 m3 b11 none 0 ([] : List Signed) (H14.fin [1, 2, 3] (by decide) rfl) (by first | decide | omega) va vc ls (ListAt.now H14 0 rfl hls) (fun x hx => ListAt.now H14 0 rfl (hal x hx)) (list_off encT_len (by decide) H14 [1, 2, 3] 0 rfl rfl (by decide) hls) (fun x hx => (list_off encB_len (by decide) H14 [1, 2, 3] 0 rfl rfl (by decide) (hal x hx)))) ?_
  rintro _ w16 ⟨a17, c18, L19, rfl, T20, n21⟩
  have H22 : Sat w [restC w (fun _ => False), bookC b2 m3 L19, cellC b11 44 ([(.slice a17 L19.length c18)] : List Value), rowC 60 2 (.slice a17 L19.length c18) L19.length (L19.flatMap encS)] w16 := (Sat.turnL (L' := [bookC b2 m3 L19, cellC b11 44 ([(.slice a17 L19.length c18)] : List Value), rowC 60 2 (.slice a17 L19.length c18) L19.length (L19.flatMap encS)]) (R := [restC w (fun _ => False)]) H14 [1, 2, 3] [0] (by decide) (by kernel_rfl) rfl T20).pick [3, 0, 1, 2] (by decide)
  try simp only [List.length_nil] at n21
  refine ⟨_, rfl, ?_⟩
  refine hK15 _ _ ?_
  clear hK15 K15
  refine wl_pure (wants0 rfl) (d := 18) (v := (.bool false)) rfl (by kernel_rfl) ?_
  refine w_nil ?_
  refine then_normal ?_
  refine wp_iff rfl ?_
  refine w_skip ?_
  refine then_normal ?_
  refine w_seq ?_
  refine w_lit ?_
  refine wl_pure (wants0 rfl) (d := 19) (v := (.pointer (some ⟨b2, 0, none⟩))) rfl (by kernel_rfl) ?_
  refine wl_do (wants0 rfl) (fun K23 hK23 => ?_)
  refine d_call (d := 20) rfl (by kernel_rfl) (clone_any w16 b2 m3 L19 (H22.at 1 rfl)) ?_
  rintro _ w26 ⟨b24, m25, rfl, k27, u28, p29, q30⟩
  have H31 : Sat w [restC w (fun _ => False), bookC b2 m3 L19, cellC b11 44 ([(.slice a17 L19.length c18)] : List Value), rowC 60 2 (.slice a17 L19.length c18) L19.length (L19.flatMap encS), bookC b24 m25 L19] w26 := H22.addU u28 k27 (fun k hk => by rcases hk with rfl | rfl <;> assumption)
  refine ⟨_, rfl, ?_⟩
  refine hK23 _ _ ?_
  clear hK23 K23
  refine wl_pure (wants0 rfl) (d := 21) (v := (.pointer (some ⟨b11, 0, none⟩))) rfl (by kernel_rfl) ?_
  refine wl_do (wants0 rfl) (fun K32 hK32 => ?_)
  refine d_call (d := 22) rfl (by kernel_rfl) (rCopy03_any w26 b11 a17 c18 L19 (H31.fin [2, 3] (by decide) rfl) (by omega)) ?_
  rintro _ w33 ⟨r34, a35, c36, rfl, T37⟩
  have H38 : Sat w [restC w (fun _ => False), bookC b2 m3 L19, cellC b11 44 ([(.slice a17 L19.length c18)] : List Value), rowC 60 2 (.slice a17 L19.length c18) L19.length (L19.flatMap encS), bookC b24 m25 L19, cellC r34 44 ([(.slice a35 L19.length c36)] : List Value), rowC 60 2 (.slice a35 L19.length c36) L19.length (L19.flatMap encS)] w33 := (Sat.turnL (L' := [cellC b11 44 ([(.slice a17 L19.length c18)] : List Value), rowC 60 2 (.slice a17 L19.length c18) L19.length (L19.flatMap encS), cellC r34 44 ([(.slice a35 L19.length c36)] : List Value), rowC 60 2 (.slice a35 L19.length c36) L19.length (L19.flatMap encS)]) (R := [restC w (fun _ => False), bookC b2 m3 L19, bookC b24 m25 L19]) H31 [2, 3] [0, 1, 4] (by decide) (by kernel_rfl) rfl T37).pick [4, 5, 0, 1, 6, 2, 3] (by decide)
  refine ⟨_, rfl, ?_⟩
  refine hK32 _ _ ?_
  clear hK32 K32
  refine wl_pure (wants0 rfl) (d := 7) (v := (.pointer (some ⟨b24, 0, none⟩))) rfl (by kernel_rfl) ?_
  refine wl_pure (wants0 rfl) (d := 8) (v := (.pointer (some ⟨r34, 0, none⟩))) rfl (by kernel_rfl) ?_
  refine w_nil ?_
  refine then_normal ?_
  refine w_seq ?_
  refine w_lit ?_
  refine wl_pure (wants0 rfl) (d := 23) (v := (.pointer (some ⟨b24, 0, none⟩))) rfl (by kernel_rfl) ?_
  refine wl_pure (wants0 rfl) (d := 24) (v := (.bool true)) rfl (by kernel_rfl) ?_
  refine wl_pure (wants0 rfl) (d := 25) (v := (.bool true)) rfl (by kernel_rfl) ?_
  refine wl_pure (wantsY 2 25 true rfl (by kernel_rfl) rfl (by kernel_rfl)) (d := 26) (v := (.pointer (some ⟨b24, 0, none⟩))) rfl (by kernel_rfl) ?_
  refine wl_pure (wantsY 2 25 true rfl (by kernel_rfl) rfl (by kernel_rfl)) (d := 27) (v := (.pointer (some ⟨r34, 0, none⟩))) rfl (by kernel_rfl) ?_
  refine wl_pure (wantsY 2 25 true rfl (by kernel_rfl) rfl (by kernel_rfl)) (d := 28) (v := (.slice vb ms.length vd)) rfl (by kernel_rfl) ?_
  refine wl_do (wantsY 2 25 true rfl (by kernel_rfl) rfl (by kernel_rfl)) (fun K39 hK39 => ?_)
  refine d_call (d := 29) rfl (by kernel_rfl) (play03_any w33 b24 m25 r34 a35 c36 L19 (H38.fin [4, 5, 6] (by decide) rfl) (by first | decide | omega) vb vd ms (ListAt.now H38 0 rfl hms) (fun x hx => ListAt.now H38 0 rfl (ham x hx)) (list_off encT_len (by decide) H38 [4, 5, 6] 0 rfl rfl (by decide) hms) (fun x hx => (list_off encB_len (by decide) H38 [4, 5, 6] 0 rfl rfl (by decide) (ham x hx)))) ?_
  rintro _ w40 ⟨a41, c42, L43, rfl, T44, n45⟩
  have H46 : Sat w [restC w (fun _ => False), bookC b2 m3 L19, cellC b11 44 ([(.slice a17 L19.length c18)] : List Value), rowC 60 2 (.slice a17 L19.length c18) L19.length (L19.flatMap encS), bookC b24 m25 L43, cellC r34 44 ([(.slice a41 L43.length c42)] : List Value), rowC 60 2 (.slice a41 L43.length c42) L43.length (L43.flatMap encS)] w40 := (Sat.turnL (L' := [bookC b24 m25 L43, cellC r34 44 ([(.slice a41 L43.length c42)] : List Value), rowC 60 2 (.slice a41 L43.length c42) L43.length (L43.flatMap encS)]) (R := [restC w (fun _ => False), bookC b2 m3 L19, cellC b11 44 ([(.slice a17 L19.length c18)] : List Value), rowC 60 2 (.slice a17 L19.length c18) L19.length (L19.flatMap encS)]) H38 [4, 5, 6] [0, 1, 2, 3] (by decide) (by kernel_rfl) rfl T44).pick [3, 4, 5, 6, 0, 1, 2] (by decide)
  try simp only [List.length_nil] at n45
  refine ⟨_, rfl, ?_⟩
  refine hK39 _ _ ?_
  clear hK39 K39
  refine wl_pure (wants0 rfl) (d := 30) (v := (.bool true)) rfl (by kernel_rfl) ?_
  refine wl_pure (wants0 rfl) (d := 31) (v := (.bool true)) rfl (by kernel_rfl) ?_
  refine wl_pure (wantsY 8 31 true rfl (by kernel_rfl) rfl (by kernel_rfl)) (d := 32) (v := (.pointer (some ⟨b2, 0, none⟩))) rfl (by kernel_rfl) ?_
  refine wl_pure (wantsY 8 31 true rfl (by kernel_rfl) rfl (by kernel_rfl)) (d := 33) (v := (.pointer (some ⟨b11, 0, none⟩))) rfl (by kernel_rfl) ?_
  refine wl_pure (wantsY 8 31 true rfl (by kernel_rfl) rfl (by kernel_rfl)) (d := 34) (v := (.slice va ls.length vc)) rfl (by kernel_rfl) ?_
  refine wl_do (wantsY 8 31 true rfl (by kernel_rfl) rfl (by kernel_rfl)) (fun K47 hK47 => ?_)
  refine d_call (d := 35) rfl (by kernel_rfl) (play03_any w40 b2 m3 b11 a17 c18 L19 (H46.fin [1, 2, 3] (by decide) rfl) (by first | decide | omega) va vc ls (ListAt.now H46 0 rfl hls) (fun x hx => ListAt.now H46 0 rfl (hal x hx)) (list_off encT_len (by decide) H46 [1, 2, 3] 0 rfl rfl (by decide) hls) (fun x hx => (list_off encB_len (by decide) H46 [1, 2, 3] 0 rfl rfl (by decide) (hal x hx)))) ?_
  rintro _ w48 ⟨a49, c50, L51, rfl, T52, n53⟩
  have H54 : Sat w [restC w (fun _ => False), bookC b2 m3 L51, cellC b11 44 ([(.slice a49 L51.length c50)] : List Value), rowC 60 2 (.slice a49 L51.length c50) L51.length (L51.flatMap encS), bookC b24 m25 L43, cellC r34 44 ([(.slice a41 L43.length c42)] : List Value), rowC 60 2 (.slice a41 L43.length c42) L43.length (L43.flatMap encS)] w48 := (Sat.turnL (L' := [bookC b2 m3 L51, cellC b11 44 ([(.slice a49 L51.length c50)] : List Value), rowC 60 2 (.slice a49 L51.length c50) L51.length (L51.flatMap encS)]) (R := [restC w (fun _ => False), bookC b24 m25 L43, cellC r34 44 ([(.slice a41 L43.length c42)] : List Value), rowC 60 2 (.slice a41 L43.length c42) L43.length (L43.flatMap encS)]) H46 [1, 2, 3] [0, 4, 5, 6] (by decide) (by kernel_rfl) rfl T52).pick [3, 0, 1, 2, 4, 5, 6] (by decide)
  try simp only [List.length_nil] at n53
  refine ⟨_, rfl, ?_⟩
  refine hK47 _ _ ?_
  clear hK47 K47
  refine wl_pure (wants0 rfl) (d := 36) (v := (.bool true)) rfl (by kernel_rfl) ?_
  refine wl_pure (wants0 rfl) (d := 37) (v := (.bool true)) rfl (by kernel_rfl) ?_
  refine wl_do (wantsY 14 37 true rfl (by kernel_rfl) rfl (by kernel_rfl)) (fun K55 hK55 => ?_)
  refine d_call (d := 38) rfl (by kernel_rfl) (wakes_any w48) ?_
  rintro _ w56 ⟨rfl, u58⟩
  have H57 := H54.keepU u58
  refine ⟨_, rfl, ?_⟩
  refine hK55 _ _ ?_
  clear hK55 K55
  refine wl_pure (wants0 rfl) (d := 39) (v := (.bool true)) rfl (by kernel_rfl) ?_
  refine wl_pure (wants0 rfl) (d := 4) (v := (.bool true)) rfl (by kernel_rfl) ?_
  refine w_nil ?_
  refine then_normal ?_
  refine w_ret ?_
  refine end1 rfl (res_tmp (v := (.bool true)) rfl) ?_
  exact ⟨rfl, H57.upd 0 rfl [] (fun _ h => h.elim)⟩

end Go.Proofs.Ytjcoeokmoibppaa
