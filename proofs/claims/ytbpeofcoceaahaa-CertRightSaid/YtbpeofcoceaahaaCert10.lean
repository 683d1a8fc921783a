/- WHAT IS PROVED: certificates signed in both books: a contract. Conditions: stated with each. -/
import Derived.Test.YtbpeofcoceaahaaStore10
import Derived.Test.YtbpeofcoceaahaaRg2r
namespace Go.Proofs.Ytbpeofcoceaahaa
open Go.RowKit
theorem slice_addrB {va : Option Addr} {n c n' c' : Nat} {ad : Addr} (h : Value.slice va n c = .slice (some ad) n' c') : va = some ad := by
  simp only [Value.slice.injEq] at h; exact h.1
theorem getD_memU {xs : List Int} {i : Nat} (h : i < xs.length) : xs.getD i 0 ∈ xs := by
  rw [List.getD_eq_getElem?_getD, List.getElem?_eq_getElem h]; exact List.getElem_mem h

set_option maxRecDepth 100000 in
set_option maxHeartbeats 2000000 in
theorem bkCert_any (w : World) (b mb r : Nat) (a : Option Addr) (c : Nat) (L : List Signed) (hB : (sepC (bothL b mb r a c L)).ok w) (f cn : Int) (hf : 1 ≤ f ∧ f ≤ 5) (x : CommitD) (hx : CoOk x) (from_ : Int) (hL : L.length ≤ 1000) (hn : L.Nodup) (va : Option Addr) (vc : Nat) (xs : List Int) (hxs : ListAt encU 1 w (.slice va xs.length vc) xs) (hbd : ∀ x ∈ xs, 0 ≤ x ∧ x ≤ 18446744073709551615) (hva : 0 < xs.length → ∀ ad, va = some ad → ¬ (sepC (bothL b mb r a c L)).fp ad.block) :
    Calls Try.prog 26 #[(.agg ⟨([(.pointer (some ⟨b, 0, none⟩)), (.pointer (some ⟨r, 0, none⟩))] : List Value)⟩), (.agg ⟨([(.int .i64 (f)), (.int .i64 (cn))] : List Value)⟩), (.agg ⟨(([(.int .i64 (x.cl)), (.int .i64 (x.seq))] : List Value) ++ hc x.h ++ ([(.int .i64 (x.len)), (.int .i64 (x.sb)), (.int .i64 (x.sm))] : List Value))⟩), (.int .i64 (from_)), (.slice va xs.length vc)] w fun e w' => ∃ (ra : Option Addr) (rc : Nat) (L1 : List Signed) (da : Option Addr) (dc : Nat) (D : List StampD), e = .returned (.agg ⟨encCo x ++ [.slice da D.length dc]⟩) ∧ (D.length : Int) = 2 * f + 1 ∧ (∀ s ∈ D, StOk s) ∧ L1.Nodup ∧ L1.length ≤ L.length + 11 ∧ Sat w [cellC b 107 [.map (some mb)], mapC mb signedV (Value.int .i64) (marks L1), cellC r 88 [.slice ra (L1).length rc], rowC 120 2 (.slice ra (L1).length rc) (L1).length ((L1).flatMap encS), rowC 49 38 (.slice da D.length dc) D.length (D.flatMap encSt), restC w (sepC (bothL b mb r a c L)).fp] w' := by
  have hwf := within_lim from_ (f + 1) (by omega)
  obtain ⟨Q, hQ⟩ : ∃ Q : Nat, (Q : Int) = 2 * f + 1 := ⟨(2 * f + 1).toNat, by omega⟩
  have H : Sat w [cellC b 107 ([(.map (some mb))] : List Value), mapC mb signedV (Value.int .i64) (marks L), cellC r 88 ([(.slice a L.length c)] : List Value), rowC 120 2 (.slice a L.length c) L.length (L.flatMap encS), restC w (sepC (bothL b mb r a c L)).fp] w := Sat.start (bothL b mb r a c L) hB
  refine calls_fr Try.func26 rfl 50 rfl (Nat.le_of_ble_eq_true rfl) ?_
  refine w_seq ?_
  refine w_lit ?_
  refine wl_do (wants0 rfl) (fun K1 hK1 => ?_)
  refine d_box (vs := ([(.pointer (some ⟨b, 0, none⟩)), (.pointer (some ⟨r, 0, none⟩))] : List Value)) rfl H rfl rfl ?_
  intro b2 w3 (H4 : Sat w [cellC b 107 ([(.map (some mb))] : List Value), mapC mb signedV (Value.int .i64) (marks L), cellC r 88 ([(.slice a L.length c)] : List Value), rowC 120 2 (.slice a L.length c) L.length (L.flatMap encS), restC w (sepC (bothL b mb r a c L)).fp, cellC b2 54 ([(.pointer (some ⟨b, 0, none⟩)), (.pointer (some ⟨r, 0, none⟩))] : List Value)] w3)
  refine hK1 _ _ ?_
  clear hK1 K1
  refine wl_do (wants0 rfl) (fun K5 hK5 => ?_)
  refine d_box (vs := ([(.int .i64 (f)), (.int .i64 (cn))] : List Value)) rfl H4 rfl rfl ?_
  intro b6 w7 (H8 : Sat w [cellC b 107 ([(.map (some mb))] : List Value), mapC mb signedV (Value.int .i64) (marks L), cellC r 88 ([(.slice a L.length c)] : List Value), rowC 120 2 (.slice a L.length c) L.length (L.flatMap encS), restC w (sepC (bothL b mb r a c L)).fp, cellC b2 54 ([(.pointer (some ⟨b, 0, none⟩)), (.pointer (some ⟨r, 0, none⟩))] : List Value), cellC b6 36 ([(.int .i64 (f)), (.int .i64 (cn))] : List Value)] w7)
  refine hK5 _ _ ?_
  clear hK5 K5
  refine wl_do (wants0 rfl) (fun K9 hK9 => ?_)
  refine d_box (vs := (([(.int .i64 (x.cl)), (.int .i64 (x.seq))] : List Value) ++ hc x.h ++ ([(.int .i64 (x.len)), (.int .i64 (x.sb)), (.int .i64 (x.sm))] : List Value))) rfl H8 rfl rfl ?_
  intro b10 w11 (H12 : Sat w [cellC b 107 ([(.map (some mb))] : List Value), mapC mb signedV (Value.int .i64) (marks L), cellC r 88 ([(.slice a L.length c)] : List Value), rowC 120 2 (.slice a L.length c) L.length (L.flatMap encS), restC w (sepC (bothL b mb r a c L)).fp, cellC b2 54 ([(.pointer (some ⟨b, 0, none⟩)), (.pointer (some ⟨r, 0, none⟩))] : List Value), cellC b6 36 ([(.int .i64 (f)), (.int .i64 (cn))] : List Value), cellC b10 44 (([(.int .i64 (x.cl)), (.int .i64 (x.seq))] : List Value) ++ hc x.h ++ ([(.int .i64 (x.len)), (.int .i64 (x.sb)), (.int .i64 (x.sm))] : List Value))] w11)
  refine hK9 _ _ ?_
  clear hK9 K9
  refine wl_do (wants0 rfl) (fun K13 hK13 => ?_)
  refine d_alloc (zs := (([(.int .i64 (0)), (.int .i64 (0))] : List Value) ++ hc hash0 ++ ([(.int .i64 (0)), (.int .i64 (0)), (.int .i64 (0)), (.slice none 0 0)] : List Value))) (z := (.agg ⟨(([(.int .i64 (0)), (.int .i64 (0))] : List Value) ++ hc hash0 ++ ([(.int .i64 (0)), (.int .i64 (0)), (.int .i64 (0)), (.slice none 0 0)] : List Value))⟩)) rfl H12 (by kernel_rfl) (by kernel_rfl) ?_
  intro b14 w15 (H16 : Sat w [cellC b 107 ([(.map (some mb))] : List Value), mapC mb signedV (Value.int .i64) (marks L), cellC r 88 ([(.slice a L.length c)] : List Value), rowC 120 2 (.slice a L.length c) L.length (L.flatMap encS), restC w (sepC (bothL b mb r a c L)).fp, cellC b2 54 ([(.pointer (some ⟨b, 0, none⟩)), (.pointer (some ⟨r, 0, none⟩))] : List Value), cellC b6 36 ([(.int .i64 (f)), (.int .i64 (cn))] : List Value), cellC b10 44 (([(.int .i64 (x.cl)), (.int .i64 (x.seq))] : List Value) ++ hc x.h ++ ([(.int .i64 (x.len)), (.int .i64 (x.sb)), (.int .i64 (x.sm))] : List Value)), cellC b14 47 (([(.int .i64 (0)), (.int .i64 (0))] : List Value) ++ hc hash0 ++ ([(.int .i64 (0)), (.int .i64 (0)), (.int .i64 (0)), (.slice none 0 0)] : List Value))] w15)
  refine hK13 _ _ ?_
  clear hK13 K13
  refine w_nil ?_
  refine then_normal ?_
  refine w_seq ?_
  refine w_lit ?_
  refine wl_pure (wants0 rfl) (d := 14) (v := (.agg ⟨(([(.int .i64 (x.cl)), (.int .i64 (x.seq))] : List Value) ++ hc x.h ++ ([(.int .i64 (x.len)), (.int .i64 (x.sb)), (.int .i64 (x.sm))] : List Value))⟩)) rfl (e_loadN (vs := (([(.int .i64 (x.cl)), (.int .i64 (x.seq))] : List Value) ++ hc x.h ++ ([(.int .i64 (x.len)), (.int .i64 (x.sb)), (.int .i64 (x.sm))] : List Value))) rfl (by kernel_rfl) (by kernel_rfl) (by exact Nat.le_of_ble_eq_true (by kernel_rfl)) (H16.at 7 rfl) (by kernel_rfl)) ?_
  refine wl_pure (wants0 rfl) (d := 15) (v := (.agg ⟨(([(.int .i64 (x.cl)), (.int .i64 (x.seq))] : List Value) ++ hc x.h ++ ([(.int .i64 (x.len)), (.int .i64 (x.sb)), (.int .i64 (x.sm)), (.slice none 0 0)] : List Value))⟩)) rfl (by kernel_rfl) ?_
  refine wl_do (wants0 rfl) (fun K17 hK17 => ?_)
  refine d_alloc (zs := (([(.int .i64 (0)), (.int .i64 (0))] : List Value) ++ hc hash0 ++ ([(.int .i64 (0)), (.int .i64 (0)), (.int .i64 (0)), (.slice none 0 0)] : List Value))) (z := (.agg ⟨(([(.int .i64 (0)), (.int .i64 (0))] : List Value) ++ hc hash0 ++ ([(.int .i64 (0)), (.int .i64 (0)), (.int .i64 (0)), (.slice none 0 0)] : List Value))⟩)) rfl H16 (by kernel_rfl) (by kernel_rfl) ?_
  intro b18 w19 (H20 : Sat w [cellC b 107 ([(.map (some mb))] : List Value), mapC mb signedV (Value.int .i64) (marks L), cellC r 88 ([(.slice a L.length c)] : List Value), rowC 120 2 (.slice a L.length c) L.length (L.flatMap encS), restC w (sepC (bothL b mb r a c L)).fp, cellC b2 54 ([(.pointer (some ⟨b, 0, none⟩)), (.pointer (some ⟨r, 0, none⟩))] : List Value), cellC b6 36 ([(.int .i64 (f)), (.int .i64 (cn))] : List Value), cellC b10 44 (([(.int .i64 (x.cl)), (.int .i64 (x.seq))] : List Value) ++ hc x.h ++ ([(.int .i64 (x.len)), (.int .i64 (x.sb)), (.int .i64 (x.sm))] : List Value)), cellC b14 47 (([(.int .i64 (0)), (.int .i64 (0))] : List Value) ++ hc hash0 ++ ([(.int .i64 (0)), (.int .i64 (0)), (.int .i64 (0)), (.slice none 0 0)] : List Value)), cellC b18 47 (([(.int .i64 (0)), (.int .i64 (0))] : List Value) ++ hc hash0 ++ ([(.int .i64 (0)), (.int .i64 (0)), (.int .i64 (0)), (.slice none 0 0)] : List Value))] w19)
  refine hK17 _ _ ?_
  clear hK17 K17
  refine wl_do (wants0 rfl) (fun K21 hK21 => ?_)
  refine d_storeX (vs := (([(.int .i64 (x.cl)), (.int .i64 (x.seq))] : List Value) ++ hc x.h ++ ([(.int .i64 (x.len)), (.int .i64 (x.sb)), (.int .i64 (x.sm)), (.slice none 0 0)] : List Value))) (cs' := (([(.int .i64 (x.cl)), (.int .i64 (x.seq))] : List Value) ++ hc x.h ++ ([(.int .i64 (x.len)), (.int .i64 (x.sb)), (.int .i64 (x.sm)), (.slice none 0 0)] : List Value))) rfl H20 9 rfl rfl rfl rfl (by kernel_rfl) (Nat.le_of_ble_eq_true (by kernel_rfl)) (Nat.le_of_ble_eq_true (by kernel_rfl)) (by kernel_rfl) (by kernel_rfl) ?_
  intro w22 (H23 : Sat w [cellC b 107 ([(.map (some mb))] : List Value), mapC mb signedV (Value.int .i64) (marks L), cellC r 88 ([(.slice a L.length c)] : List Value), rowC 120 2 (.slice a L.length c) L.length (L.flatMap encS), restC w (sepC (bothL b mb r a c L)).fp, cellC b2 54 ([(.pointer (some ⟨b, 0, none⟩)), (.pointer (some ⟨r, 0, none⟩))] : List Value), cellC b6 36 ([(.int .i64 (f)), (.int .i64 (cn))] : List Value), cellC b10 44 (([(.int .i64 (x.cl)), (.int .i64 (x.seq))] : List Value) ++ hc x.h ++ ([(.int .i64 (x.len)), (.int .i64 (x.sb)), (.int .i64 (x.sm))] : List Value)), cellC b14 47 (([(.int .i64 (0)), (.int .i64 (0))] : List Value) ++ hc hash0 ++ ([(.int .i64 (0)), (.int .i64 (0)), (.int .i64 (0)), (.slice none 0 0)] : List Value)), cellC b18 47 (([(.int .i64 (x.cl)), (.int .i64 (x.seq))] : List Value) ++ hc x.h ++ ([(.int .i64 (x.len)), (.int .i64 (x.sb)), (.int .i64 (x.sm)), (.slice none 0 0)] : List Value))] w22)
  refine hK21 _ _ ?_
  clear hK21 K21
  refine w_nil ?_
  refine then_normal ?_
  refine w_seq ?_
  refine w_lit ?_
  refine wl_pure (wants0 rfl) (d := 16) (v := (.int .i64 (from_))) rfl (by kernel_rfl) ?_
  refine wl_pure (wants0 rfl) (d := 17) (v := (.pointer (some ⟨b6, 0, none⟩))) rfl (by kernel_rfl) ?_
  refine wl_pure (wants0 rfl) (d := 18) (v := (.int .i64 (f))) rfl (e_load1 rfl (by kernel_rfl) (H23.cell 6 rfl rfl)) ?_
  refine wl_pure (wants0 rfl) (d := 19) (v := (.int .i64 (f + 1))) rfl (e_int (z := f + 1) (by kernel_rfl) (IntWalk.i64_in _ (by omega))) ?_
  refine wl_do (wants0 rfl) (fun K25 hK25 => ?_)
  refine d_call (d := 20) rfl (by kernel_rfl) (within_any w22 from_ (f + 1) (by omega)) ?_
  rintro _ w26 ⟨rfl, u28⟩
  have H27 := H23.keepU u28
  refine ⟨_, rfl, ?_⟩
  refine hK25 _ _ ?_
  clear hK25 K25
  refine wl_pure (wants0 rfl) (d := 3) (v := (.int .i64 (withinV from_ (f + 1)))) rfl (by kernel_rfl) ?_
  refine w_nil ?_
  refine then_normal ?_
  refine w_seq ?_
  refine w_seq ?_
  refine w_lit ?_
  refine wl_pure (wants0 rfl) (d := 12) (v := (.int .i64 (0))) rfl (by kernel_rfl) ?_
  refine w_nil ?_
  refine then_normal ?_
  refine w_block ?_
  have H29 := H27.addNil 49 38
  refine wp_round [12, 13, 21, 22, 23, 24, 25, 26, 27, 28, 29, 30, 31, 32, 33, 34, 35, 36, 37, 38, 39, 40, 41, 42, 43, 44, 45, 46, 47, 48] (fun F_ W_ m_ => ∃ (i : Nat) (da : Option Addr) (dc : Nat) (D : List StampD) (ra : Option Addr) (rc : Nat) (L1 : List Signed), F_ 12 = (.int .i64 ((i : Int))) ∧ (i ≤ Q) ∧ (∀ s ∈ D, StOk s) ∧ (L1.Nodup) ∧ (L1.length ≤ L.length + i) ∧ (D.length = i) ∧ Sat w [cellC b 107 ([(.map (some mb))] : List Value), mapC mb signedV (Value.int .i64) (marks L1), cellC r 88 ([(.slice ra L1.length rc)] : List Value), rowC 120 2 (.slice ra L1.length rc) L1.length (L1.flatMap encS), restC w (sepC (bothL b mb r a c L)).fp, cellC b2 54 ([(.pointer (some ⟨b, 0, none⟩)), (.pointer (some ⟨r, 0, none⟩))] : List Value), cellC b6 36 ([(.int .i64 (f)), (.int .i64 (cn))] : List Value), cellC b10 44 (([(.int .i64 (x.cl)), (.int .i64 (x.seq))] : List Value) ++ hc x.h ++ ([(.int .i64 (x.len)), (.int .i64 (x.sb)), (.int .i64 (x.sm))] : List Value)), cellC b14 47 (([(.int .i64 (0)), (.int .i64 (0))] : List Value) ++ hc hash0 ++ ([(.int .i64 (0)), (.int .i64 (0)), (.int .i64 (0)), (.slice none 0 0)] : List Value)), cellC b18 47 (([(.int .i64 (x.cl)), (.int .i64 (x.seq))] : List Value) ++ hc x.h ++ ([(.int .i64 (x.len)), (.int .i64 (x.sb)), (.int .i64 (x.sm)), (.slice da D.length dc)] : List Value)), rowC 49 38 (.slice da D.length dc) D.length (D.flatMap encSt)] W_ ∧ m_ = Q - i) _ ⟨0, none, 0, [], a, c, L, (show ((.int .i64 (0)) : Value) = _ by first | rfl | go_num), (Nat.zero_le _), (by simp), hn, (by omega), rfl, H29, rfl⟩ ?_
  rintro g30 w31 _ ⟨i, da, dc, D, ra, rc, L1, v33, hin, hok, hnd, hLl, hDl, H32, rfl⟩
  refine wp_know 12 _ v33 ?_
  refine w_seq ?_
  refine w_seq ?_
  refine w_lit ?_
  refine wl_pure (wants0 rfl) (d := 21) (v := (.int .i64 ((i : Int)))) rfl (by kernel_rfl) ?_
  refine wl_pure (wants0 rfl) (d := 22) (v := (.agg ⟨([(.int .i64 (f)), (.int .i64 (cn))] : List Value)⟩)) rfl (e_loadN (vs := ([(.int .i64 (f)), (.int .i64 (cn))] : List Value)) rfl (by kernel_rfl) (by kernel_rfl) (by exact Nat.le_of_ble_eq_true (by kernel_rfl)) (H32.at 6 rfl) (by kernel_rfl)) ?_
  refine wl_do (wants0 rfl) (fun K35 hK35 => ?_)
  refine d_call (d := 23) rfl (by kernel_rfl) (rQ_any w31 f cn (by omega)) ?_
  rintro _ w36 ⟨rfl, u38⟩
  have H37 := H32.keepU u38
  refine ⟨_, rfl, ?_⟩
  refine hK35 _ _ ?_
  clear hK35 K35
  refine wl_pure (wants0 rfl) (d := 24) (v := (.bool (decide ((i : Int) < (2 * f + 1))))) rfl (by kernel_rfl) ?_
  refine w_nil ?_
  refine then_normal ?_
  refine (bsplit (decide ((i : Int) < (2 * f + 1)))).elim (fun b39 => ?_) (fun b39 => ?_)
  · have g40 := of_decide_eq_true b39
    refine wp_know 24 (.bool true) (congrArg Value.bool b39) ?_
    have g41 := of_decide_eq_true b39
    refine wp_ift rfl ?_
    refine w_skip ?_
    refine then_normal ?_
    refine w_seq ?_
    refine w_block ?_
    refine w_seq ?_
    refine w_lit ?_
    refine wl_pure (wants0 rfl) (d := 13) (v := (.int .u64 (5))) rfl (by kernel_rfl) ?_
    refine w_nil ?_
    refine then_normal ?_
    refine w_seq ?_
    refine w_seq ?_
    refine w_lit ?_
    refine wl_pure (wants0 rfl) (d := 27) (v := (.int .i64 ((i : Int)))) rfl (by kernel_rfl) ?_
    refine wl_pure (wants0 rfl) (d := 28) (v := (.slice va xs.length vc)) rfl (by kernel_rfl) ?_
    refine wl_pure (wants0 rfl) (d := 29) (v := (.int .i64 ((xs.length : Int)))) rfl (by kernel_rfl) ?_
    refine wl_pure (wants0 rfl) (d := 30) (v := (.bool (decide ((i : Int) < (xs.length : Int))))) rfl (by kernel_rfl) ?_
    refine w_nil ?_
    refine then_normal ?_
    refine (bsplit (decide ((i : Int) < (xs.length : Int)))).elim (fun b42 => ?_) (fun b42 => ?_)
    · have g43 := of_decide_eq_true b42
      refine wp_know 30 (.bool true) (congrArg Value.bool b42) ?_
      have g44 := of_decide_eq_true b42
      refine wp_ift rfl ?_
      have hx0 : 0 ≤ xs.getD i 0 := (hbd _ (getD_memU (by omega))).1
      refine w_lit ?_
      refine wl_pure (wants0 rfl) (d := 31) (v := (.slice va xs.length vc)) rfl (by kernel_rfl) ?_
      refine wl_pure (wants0 rfl) (d := 32) (v := (.int .i64 ((i : Int)))) rfl (by kernel_rfl) ?_
      obtain ⟨g45, o46, c47, e48, R49⟩ := SliceOf.atD hxs 0 (show i < xs.length by omega)
      refine wl_pure (wants0 rfl) (d := 33) (v := (.pointer (some ⟨g45, o46 + ((i : Int)).toNat * 1, none⟩))) rfl (e_indexAddrW (E := 23) (by kernel_rfl) (by kernel_rfl) (Nat.le_of_ble_eq_true rfl) rfl e48 rfl (by omega) (by omega)) ?_
      refine wl_pure (wants0 rfl) (d := 34) (v := (.int .u64 ((xs.getD i 0)))) rfl (e_load1 rfl (by kernel_rfl) (H37.cellR 4 rfl (cells_at R49 0 (by kernel_rfl) (show o46 + ((i : Int)).toNat * 1 = o46 + i * 1 + 0 by omega)) (by have hq := hva (by omega) _ (slice_addrB e48); exact hq))) ?_
      refine wl_pure (wants0 rfl) (d := 35) (v := (.int .u64 ((xs.getD i 0) % 1000))) rfl (e_rem (by kernel_rfl) (by omega) (by omega)) ?_
      refine wl_pure (wants0 rfl) (d := 36) (v := (.int .u64 (1 + ((xs.getD i 0) % 1000)))) rfl (e_int (z := 1 + ((xs.getD i 0) % 1000)) (by kernel_rfl) (wrap_u64 (by omega))) ?_
      refine wl_pure (wants0 rfl) (d := 13) (v := (.int .u64 (1 + ((xs.getD i 0) % 1000)))) rfl (by kernel_rfl) ?_
      refine w_nil ?_
      refine then_normal ?_
      refine k_start H37 [restC w (sepC (bothL b mb r a c L)).fp, cellC b2 54 ([(.pointer (some ⟨b, 0, none⟩)), (.pointer (some ⟨r, 0, none⟩))] : List Value), cellC b6 36 ([(.int .i64 (f)), (.int .i64 (cn))] : List Value), cellC b10 44 (([(.int .i64 (x.cl)), (.int .i64 (x.seq))] : List Value) ++ hc x.h ++ ([(.int .i64 (x.len)), (.int .i64 (x.sb)), (.int .i64 (x.sm))] : List Value)), cellC b14 47 (([(.int .i64 (0)), (.int .i64 (0))] : List Value) ++ hc hash0 ++ ([(.int .i64 (0)), (.int .i64 (0)), (.int .i64 (0)), (.slice none 0 0)] : List Value)), cellC b18 47 (([(.int .i64 (x.cl)), (.int .i64 (x.seq))] : List Value) ++ hc x.h ++ ([(.int .i64 (x.len)), (.int .i64 (x.sb)), (.int .i64 (x.sm)), (.slice da D.length dc)] : List Value))] [12] 13 rfl (by kernel_rfl) (fun Hx => (Hx.pick [4, 5, 6, 7, 8, 9] (by decide))) ?_
      intro w50 H51 S52
      refine k_pure 0 rfl (by kernel_rfl) (by kernel_rfl) (by kernel_rfl) (fun _ _ _ h => h) S52 (wants0 rfl) rfl (d := 37) (v := (.pointer (some ⟨b18, 37, none⟩))) rfl (fun _ => (by kernel_rfl)) ?_
      refine k_val 1 rfl (by kernel_rfl) (by kernel_rfl) (by kernel_rfl) (fun _ _ _ h => h) S52 (wants0 rfl) rfl (by kernel_rfl) (d := 38) (v := (.slice da D.length dc)) rfl (fun _ H' => (e_load1 rfl (by kernel_rfl) (H'.cell 5 rfl (by kernel_rfl)))) ?_
      refine k_val 2 rfl (by kernel_rfl) (by kernel_rfl) (by kernel_rfl) (fun _ _ _ h => h) S52 (wants0 rfl) rfl (by kernel_rfl) (d := 39) (v := (.agg ⟨([(.pointer (some ⟨b, 0, none⟩)), (.pointer (some ⟨r, 0, none⟩))] : List Value)⟩)) rfl (fun _ H' => (e_loadN (vs := ([(.pointer (some ⟨b, 0, none⟩)), (.pointer (some ⟨r, 0, none⟩))] : List Value)) rfl (by kernel_rfl) (by kernel_rfl) (by exact Nat.le_of_ble_eq_true (by kernel_rfl)) (H'.at 1 rfl) (by kernel_rfl))) ?_
      refine k_pure 3 rfl (by kernel_rfl) (by kernel_rfl) (by kernel_rfl) (fun _ _ _ h => h) S52 (wants0 rfl) rfl (d := 40) (v := (.int .i64 (withinV from_ (f + 1)))) rfl (fun _ => (by kernel_rfl)) ?_
      refine k_pure 4 rfl (by kernel_rfl) (by kernel_rfl) (by kernel_rfl) (fun _ _ _ h => h) S52 (wants0 rfl) rfl (d := 41) (v := (.int .i64 ((i : Int)))) rfl (fun _ => (by kernel_rfl)) ?_
      refine k_pure 5 rfl (by kernel_rfl) (by kernel_rfl) (by kernel_rfl) (fun _ _ _ h => h) S52 (wants0 rfl) rfl (d := 42) (v := (.int .i64 ((withinV from_ (f + 1)) + (i : Int)))) rfl (fun _ => (e_int (z := (withinV from_ (f + 1)) + (i : Int)) (by kernel_rfl) (IntWalk.i64_in _ (by omega)))) ?_
      refine k_val 6 rfl (by kernel_rfl) (by kernel_rfl) (by kernel_rfl) (fun _ _ _ h => h) S52 (wants0 rfl) rfl (by kernel_rfl) (d := 43) (v := (.agg ⟨(([(.int .i64 (x.cl)), (.int .i64 (x.seq))] : List Value) ++ hc x.h ++ ([(.int .i64 (x.len)), (.int .i64 (x.sb)), (.int .i64 (x.sm))] : List Value))⟩)) rfl (fun _ H' => (e_loadN (vs := (([(.int .i64 (x.cl)), (.int .i64 (x.seq))] : List Value) ++ hc x.h ++ ([(.int .i64 (x.len)), (.int .i64 (x.sb)), (.int .i64 (x.sm))] : List Value))) rfl (by kernel_rfl) (by kernel_rfl) (by exact Nat.le_of_ble_eq_true (by kernel_rfl)) (H'.at 3 rfl) (by kernel_rfl))) ?_
      refine k_pure 7 rfl (by kernel_rfl) (by kernel_rfl) (by kernel_rfl) (fun _ _ _ h => h) S52 (wants0 rfl) rfl (d := 44) (v := (.int .u64 (1 + ((xs.getD i 0) % 1000)))) rfl (fun _ => (by kernel_rfl)) ?_
      refine k_do 8 rfl (by kernel_rfl) (wants0 rfl) rfl (fun K53 hK53 => ?_)
      refine d_call (d := 45) rfl (by kernel_rfl) (bkStamp_any w50 b mb r ra rc L1 (H51.fin [0, 1, 2, 3] (by decide) rfl) ((withinV from_ (f + 1)) + (i : Int)) x (1 + ((xs.getD i 0) % 1000)) (by omega) hx (by omega) (by omega) hnd) ?_
      rintro _ w54 ⟨a56, c57, rfl, T55⟩
      obtain ⟨L59, hL59⟩ : ∃ L59 : List Signed, L59 = signL L1 (yS ((withinV from_ (f + 1)) + (i : Int)) x (1 + ((xs.getD i 0) % 1000))) := ⟨_, rfl⟩
      rw [← hL59] at T55
      have H60 : Sat w [cellC b 107 ([(.map (some mb))] : List Value), mapC mb signedV (Value.int .i64) (marks L59), cellC r 88 ([(.slice a56 L59.length c57)] : List Value), rowC 120 2 (.slice a56 L59.length c57) L59.length (L59.flatMap encS), restC w (sepC (bothL b mb r a c L)).fp, cellC b2 54 ([(.pointer (some ⟨b, 0, none⟩)), (.pointer (some ⟨r, 0, none⟩))] : List Value), cellC b6 36 ([(.int .i64 (f)), (.int .i64 (cn))] : List Value), cellC b10 44 (([(.int .i64 (x.cl)), (.int .i64 (x.seq))] : List Value) ++ hc x.h ++ ([(.int .i64 (x.len)), (.int .i64 (x.sb)), (.int .i64 (x.sm))] : List Value)), cellC b14 47 (([(.int .i64 (0)), (.int .i64 (0))] : List Value) ++ hc hash0 ++ ([(.int .i64 (0)), (.int .i64 (0)), (.int .i64 (0)), (.slice none 0 0)] : List Value)), cellC b18 47 (([(.int .i64 (x.cl)), (.int .i64 (x.seq))] : List Value) ++ hc x.h ++ ([(.int .i64 (x.len)), (.int .i64 (x.sb)), (.int .i64 (x.sm)), (.slice da D.length dc)] : List Value)), rowC 49 38 (.slice da D.length dc) D.length (D.flatMap encSt)] w54 := (Sat.turnL (L' := [cellC b 107 ([(.map (some mb))] : List Value), mapC mb signedV (Value.int .i64) (marks L59), cellC r 88 ([(.slice a56 L59.length c57)] : List Value), rowC 120 2 (.slice a56 L59.length c57) L59.length (L59.flatMap encS)]) (R := [restC w (sepC (bothL b mb r a c L)).fp, cellC b2 54 ([(.pointer (some ⟨b, 0, none⟩)), (.pointer (some ⟨r, 0, none⟩))] : List Value), cellC b6 36 ([(.int .i64 (f)), (.int .i64 (cn))] : List Value), cellC b10 44 (([(.int .i64 (x.cl)), (.int .i64 (x.seq))] : List Value) ++ hc x.h ++ ([(.int .i64 (x.len)), (.int .i64 (x.sb)), (.int .i64 (x.sm))] : List Value)), cellC b14 47 (([(.int .i64 (0)), (.int .i64 (0))] : List Value) ++ hc hash0 ++ ([(.int .i64 (0)), (.int .i64 (0)), (.int .i64 (0)), (.slice none 0 0)] : List Value)), cellC b18 47 (([(.int .i64 (x.cl)), (.int .i64 (x.seq))] : List Value) ++ hc x.h ++ ([(.int .i64 (x.len)), (.int .i64 (x.sb)), (.int .i64 (x.sm)), (.slice da D.length dc)] : List Value)), rowC 49 38 (.slice da D.length dc) D.length (D.flatMap encSt)]) H51 [0, 1, 2, 3] [4, 5, 6, 7, 8, 9, 10] (by decide) (by kernel_rfl) rfl T55).pick [0, 1, 2, 3, 4, 5, 6, 7, 8, 9, 10] (by decide)
      refine ⟨_, rfl, ?_⟩
      obtain ⟨S58, hS58⟩ : ∃ S58 : StampD, S58 = mkS L1 ((withinV from_ (f + 1)) + (i : Int)) x (1 + ((xs.getD i 0) % 1000)) := ⟨_, rfl⟩
      rw [← hS58]
      have ndL59 : L59.Nodup := by rw [hL59]; exact signL_nodup hnd _
      have llL59 : L59.length ≤ L1.length + 1 := by rw [hL59]; exact signL_len _ _
      have S61 := H60.pick [4, 5, 6, 7, 8, 9] (by decide)
      refine hK53 _ _ S61 ?_
      clear hK53 K53
      refine k_do 9 rfl (by kernel_rfl) (wants0 rfl) rfl (fun K62 hK62 => ?_)
      refine d_buildSlice (e := 49) (size := 38) (bytes := 80) (z := (.agg ⟨(([(.int .i64 (0)), (.int .i64 (0)), (.int .i64 (0))] : List Value) ++ hc hash0 ++ ([(.int .u64 (0)), (.int .i64 (0)), (.int .i64 (0))] : List Value))⟩)) (pvs := [(0, (.agg ⟨(([(.int .i64 (S58.r)), (.int .i64 (S58.cl)), (.int .i64 (S58.seq))] : List Value) ++ hc S58.h ++ ([(.int .u64 (S58.t)), (.int .i64 (S58.sb)), (.int .i64 (S58.sm))] : List Value))⟩))]) (vs := (([(.int .i64 (S58.r)), (.int .i64 (S58.cl)), (.int .i64 (S58.seq))] : List Value) ++ hc S58.h ++ ([(.int .u64 (S58.t)), (.int .i64 (S58.sb)), (.int .i64 (S58.sm))] : List Value))) rfl H60 (by kernel_rfl) (by kernel_rfl) (by kernel_rfl) (by kernel_rfl) (by kernel_rfl) rfl rfl ?_
      intro b63 w64 (H65 : Sat w [cellC b 107 ([(.map (some mb))] : List Value), mapC mb signedV (Value.int .i64) (marks L59), cellC r 88 ([(.slice a56 L59.length c57)] : List Value), rowC 120 2 (.slice a56 L59.length c57) L59.length (L59.flatMap encS), restC w (sepC (bothL b mb r a c L)).fp, cellC b2 54 ([(.pointer (some ⟨b, 0, none⟩)), (.pointer (some ⟨r, 0, none⟩))] : List Value), cellC b6 36 ([(.int .i64 (f)), (.int .i64 (cn))] : List Value), cellC b10 44 (([(.int .i64 (x.cl)), (.int .i64 (x.seq))] : List Value) ++ hc x.h ++ ([(.int .i64 (x.len)), (.int .i64 (x.sb)), (.int .i64 (x.sm))] : List Value)), cellC b14 47 (([(.int .i64 (0)), (.int .i64 (0))] : List Value) ++ hc hash0 ++ ([(.int .i64 (0)), (.int .i64 (0)), (.int .i64 (0)), (.slice none 0 0)] : List Value)), cellC b18 47 (([(.int .i64 (x.cl)), (.int .i64 (x.seq))] : List Value) ++ hc x.h ++ ([(.int .i64 (x.len)), (.int .i64 (x.sb)), (.int .i64 (x.sm)), (.slice da D.length dc)] : List Value)), rowC 49 38 (.slice da D.length dc) D.length (D.flatMap encSt), rowC 49 38 (.slice (some ⟨b63, 0, none⟩) 1 1) 1 (([(.int .i64 (S58.r)), (.int .i64 (S58.cl)), (.int .i64 (S58.seq))] : List Value) ++ hc S58.h ++ ([(.int .u64 (S58.t)), (.int .i64 (S58.sb)), (.int .i64 (S58.sm))] : List Value))] w64)
      have H66 : Sat w [cellC b 107 ([(.map (some mb))] : List Value), mapC mb signedV (Value.int .i64) (marks L59), cellC r 88 ([(.slice a56 L59.length c57)] : List Value), rowC 120 2 (.slice a56 L59.length c57) L59.length (L59.flatMap encS), restC w (sepC (bothL b mb r a c L)).fp, cellC b2 54 ([(.pointer (some ⟨b, 0, none⟩)), (.pointer (some ⟨r, 0, none⟩))] : List Value), cellC b6 36 ([(.int .i64 (f)), (.int .i64 (cn))] : List Value), cellC b10 44 (([(.int .i64 (x.cl)), (.int .i64 (x.seq))] : List Value) ++ hc x.h ++ ([(.int .i64 (x.len)), (.int .i64 (x.sb)), (.int .i64 (x.sm))] : List Value)), cellC b14 47 (([(.int .i64 (0)), (.int .i64 (0))] : List Value) ++ hc hash0 ++ ([(.int .i64 (0)), (.int .i64 (0)), (.int .i64 (0)), (.slice none 0 0)] : List Value)), cellC b18 47 (([(.int .i64 (x.cl)), (.int .i64 (x.seq))] : List Value) ++ hc x.h ++ ([(.int .i64 (x.len)), (.int .i64 (x.sb)), (.int .i64 (x.sm)), (.slice da D.length dc)] : List Value)), rowC 49 38 (.slice da D.length dc) D.length (D.flatMap encSt), rowC 49 38 (.slice (some ⟨b63, 0, none⟩) 1 1) 1 ([S58].flatMap encSt)] w64 := H65.cast (by rw [(show ((([(.int .i64 (S58.r)), (.int .i64 (S58.cl)), (.int .i64 (S58.seq))] : List Value) ++ hc S58.h ++ ([(.int .u64 (S58.t)), (.int .i64 (S58.sb)), (.int .i64 (S58.sm))] : List Value)) : List Value) = [S58].flatMap encSt by kernel_rfl)])
      have S67 := H66.pick [4, 5, 6, 7, 8, 9] (by decide)
      refine hK62 _ _ S67 ?_
      clear hK62 K62
      refine k_do 10 rfl (by kernel_rfl) (wants0 rfl) rfl (fun K68 hK68 => ?_)
      refine d_append (T := 45) (e := 49) (size := 38) (bytes := 80) rfl H66 (by kernel_rfl) 10 11 rfl rfl rfl rfl (flat_one encSt encSt_one [S58]) (by omega) (by omega) ?_
      intro v69 w70 (H71 : Sat w [cellC b 107 ([(.map (some mb))] : List Value), mapC mb signedV (Value.int .i64) (marks L59), cellC r 88 ([(.slice a56 L59.length c57)] : List Value), rowC 120 2 (.slice a56 L59.length c57) L59.length (L59.flatMap encS), restC w (sepC (bothL b mb r a c L)).fp, cellC b2 54 ([(.pointer (some ⟨b, 0, none⟩)), (.pointer (some ⟨r, 0, none⟩))] : List Value), cellC b6 36 ([(.int .i64 (f)), (.int .i64 (cn))] : List Value), cellC b10 44 (([(.int .i64 (x.cl)), (.int .i64 (x.seq))] : List Value) ++ hc x.h ++ ([(.int .i64 (x.len)), (.int .i64 (x.sb)), (.int .i64 (x.sm))] : List Value)), cellC b14 47 (([(.int .i64 (0)), (.int .i64 (0))] : List Value) ++ hc hash0 ++ ([(.int .i64 (0)), (.int .i64 (0)), (.int .i64 (0)), (.slice none 0 0)] : List Value)), cellC b18 47 (([(.int .i64 (x.cl)), (.int .i64 (x.seq))] : List Value) ++ hc x.h ++ ([(.int .i64 (x.len)), (.int .i64 (x.sb)), (.int .i64 (x.sm)), (.slice da D.length dc)] : List Value)), rowC 49 38 v69 (D.length + 1) ((D.flatMap encSt) ++ ([S58].flatMap encSt)), rowC 49 38 (.slice (some ⟨b63, 0, none⟩) 1 1) 1 ([S58].flatMap encSt)] w70)
      have H74 : Sat w [cellC b 107 ([(.map (some mb))] : List Value), mapC mb signedV (Value.int .i64) (marks L59), cellC r 88 ([(.slice a56 L59.length c57)] : List Value), rowC 120 2 (.slice a56 L59.length c57) L59.length (L59.flatMap encS), restC w (sepC (bothL b mb r a c L)).fp, cellC b2 54 ([(.pointer (some ⟨b, 0, none⟩)), (.pointer (some ⟨r, 0, none⟩))] : List Value), cellC b6 36 ([(.int .i64 (f)), (.int .i64 (cn))] : List Value), cellC b10 44 (([(.int .i64 (x.cl)), (.int .i64 (x.seq))] : List Value) ++ hc x.h ++ ([(.int .i64 (x.len)), (.int .i64 (x.sb)), (.int .i64 (x.sm))] : List Value)), cellC b14 47 (([(.int .i64 (0)), (.int .i64 (0))] : List Value) ++ hc hash0 ++ ([(.int .i64 (0)), (.int .i64 (0)), (.int .i64 (0)), (.slice none 0 0)] : List Value)), cellC b18 47 (([(.int .i64 (x.cl)), (.int .i64 (x.seq))] : List Value) ++ hc x.h ++ ([(.int .i64 (x.len)), (.int .i64 (x.sb)), (.int .i64 (x.sm)), (.slice da D.length dc)] : List Value)), rowC 49 38 v69 ((D ++ [S58]).length) ((D ++ [S58]).flatMap encSt), rowC 49 38 (.slice (some ⟨b63, 0, none⟩) 1 1) 1 ([S58].flatMap encSt)] w70 := H71.cast (by simp only [List.length_append, List.flatMap_append] <;> rfl)
      obtain ⟨a72, c73, rfl⟩ := ownsRow_shape (H74.at 10 rfl)
      have S75 := H74.pick [4, 5, 6, 7, 8, 9] (by decide)
      refine hK68 _ _ S75 ?_
      clear hK68 K68
      refine k_pure 11 rfl (by kernel_rfl) (by kernel_rfl) (by kernel_rfl) (fun _ _ _ h => h) S75 (wants0 rfl) rfl (d := 48) (v := (.pointer (some ⟨b18, 37, none⟩))) rfl (fun _ => (by kernel_rfl)) ?_
      refine k_brk 12 (Sat w [restC w (sepC (bothL b mb r a c L)).fp, cellC b2 54 ([(.pointer (some ⟨b, 0, none⟩)), (.pointer (some ⟨r, 0, none⟩))] : List Value), cellC b6 36 ([(.int .i64 (f)), (.int .i64 (cn))] : List Value), cellC b10 44 (([(.int .i64 (x.cl)), (.int .i64 (x.seq))] : List Value) ++ hc x.h ++ ([(.int .i64 (x.len)), (.int .i64 (x.sb)), (.int .i64 (x.sm))] : List Value)), cellC b14 47 (([(.int .i64 (0)), (.int .i64 (0))] : List Value) ++ hc hash0 ++ ([(.int .i64 (0)), (.int .i64 (0)), (.int .i64 (0)), (.slice none 0 0)] : List Value))]) rfl (by kernel_rfl) (wants0 rfl) rfl (fun K76 hK76 => ?_)
      refine d_storeX (vs := ([(.slice a72 ((D ++ [S58]).length) c73)] : List Value)) (cs' := (([(.int .i64 (x.cl)), (.int .i64 (x.seq))] : List Value) ++ hc x.h ++ ([(.int .i64 (x.len)), (.int .i64 (x.sb)), (.int .i64 (x.sm)), (.slice a72 ((D ++ [S58]).length) c73)] : List Value))) rfl H74 9 rfl rfl rfl rfl (by kernel_rfl) (Nat.le_of_ble_eq_true (by kernel_rfl)) (Nat.le_of_ble_eq_true (by kernel_rfl)) (by kernel_rfl) (by kernel_rfl) ?_
      intro w77 (H78 : Sat w [cellC b 107 ([(.map (some mb))] : List Value), mapC mb signedV (Value.int .i64) (marks L59), cellC r 88 ([(.slice a56 L59.length c57)] : List Value), rowC 120 2 (.slice a56 L59.length c57) L59.length (L59.flatMap encS), restC w (sepC (bothL b mb r a c L)).fp, cellC b2 54 ([(.pointer (some ⟨b, 0, none⟩)), (.pointer (some ⟨r, 0, none⟩))] : List Value), cellC b6 36 ([(.int .i64 (f)), (.int .i64 (cn))] : List Value), cellC b10 44 (([(.int .i64 (x.cl)), (.int .i64 (x.seq))] : List Value) ++ hc x.h ++ ([(.int .i64 (x.len)), (.int .i64 (x.sb)), (.int .i64 (x.sm))] : List Value)), cellC b14 47 (([(.int .i64 (0)), (.int .i64 (0))] : List Value) ++ hc hash0 ++ ([(.int .i64 (0)), (.int .i64 (0)), (.int .i64 (0)), (.slice none 0 0)] : List Value)), cellC b18 47 (([(.int .i64 (x.cl)), (.int .i64 (x.seq))] : List Value) ++ hc x.h ++ ([(.int .i64 (x.len)), (.int .i64 (x.sb)), (.int .i64 (x.sm)), (.slice a72 ((D ++ [S58]).length) c73)] : List Value)), rowC 49 38 (.slice a72 ((D ++ [S58]).length) c73) ((D ++ [S58]).length) ((D ++ [S58]).flatMap encSt), rowC 49 38 (.slice (some ⟨b63, 0, none⟩) 1 1) 1 ([S58].flatMap encSt)] w77)
      have S80 := H78.pick [4, 5, 6, 7, 8] (by decide)
      refine hK76 _ _ S80 ?_
      clear hK76 K76
      refine h_fin (by kernel_rfl) ?_
      refine blk_normal ?_
      refine then_normal ?_
      refine w_lit ?_
      refine wl_pure (wants0 rfl) (d := 25) (v := (.int .i64 ((i : Int)))) rfl (by kernel_rfl) ?_
      refine wl_pure (wants0 rfl) (d := 26) (v := (.int .i64 ((i : Int) + 1))) rfl (e_int (z := (i : Int) + 1) (by kernel_rfl) (IntWalk.i64_in _ (by omega))) ?_
      refine wl_pure (wants0 rfl) (d := 12) (v := (.int .i64 ((i : Int) + 1))) rfl (by kernel_rfl) ?_
      refine w_nil ?_
      have hok2 : ∀ s ∈ (D ++ [S58]), StOk s := fun s hs => by
        rcases List.mem_append.1 hs with h | h
        · exact hok s h
        · rw [List.mem_singleton.1 h, hS58]; exact ⟨by show withinV from_ (f + 1) + (i : Int) ≤ _; omega, hx.1, hx.2.1, by show 0 ≤ (1 + ((xs.getD i 0) % 1000)); omega, by show (1 + ((xs.getD i 0) % 1000)) < _; omega⟩
      have H81 : Sat w [cellC b 107 ([(.map (some mb))] : List Value), mapC mb signedV (Value.int .i64) (marks L59), cellC r 88 ([(.slice a56 L59.length c57)] : List Value), rowC 120 2 (.slice a56 L59.length c57) L59.length (L59.flatMap encS), restC w (sepC (bothL b mb r a c L)).fp, cellC b2 54 ([(.pointer (some ⟨b, 0, none⟩)), (.pointer (some ⟨r, 0, none⟩))] : List Value), cellC b6 36 ([(.int .i64 (f)), (.int .i64 (cn))] : List Value), cellC b10 44 (([(.int .i64 (x.cl)), (.int .i64 (x.seq))] : List Value) ++ hc x.h ++ ([(.int .i64 (x.len)), (.int .i64 (x.sb)), (.int .i64 (x.sm))] : List Value)), cellC b14 47 (([(.int .i64 (0)), (.int .i64 (0))] : List Value) ++ hc hash0 ++ ([(.int .i64 (0)), (.int .i64 (0)), (.int .i64 (0)), (.slice none 0 0)] : List Value)), cellC b18 47 (([(.int .i64 (x.cl)), (.int .i64 (x.seq))] : List Value) ++ hc x.h ++ ([(.int .i64 (x.len)), (.int .i64 (x.sb)), (.int .i64 (x.sm)), (.slice a72 ((D ++ [S58]).length) c73)] : List Value)), rowC 49 38 (.slice a72 ((D ++ [S58]).length) c73) ((D ++ [S58]).length) ((D ++ [S58]).flatMap encSt)] w77 := H78.pick [0, 1, 2, 3, 4, 5, 6, 7, 8, 9, 10] (by decide)
      refine round_back ?_ _ ⟨(i + 1), a72, c73, (D ++ [S58]), a56, c57, L59, (show ((.int .i64 ((i : Int) + 1)) : Value) = _ by first | rfl | go_num), (by omega), hok2, ndL59, (by omega), (by simp only [List.length_append, List.length_cons, List.length_nil]; omega), H81, rfl⟩ (by omega)
      exact (same_upd rfl (same_upd rfl (same_upd rfl (same_upd rfl (same_upd rfl (same_upd rfl (same_upd rfl (same_upd rfl (same_upd rfl (same_upd rfl (same_upd rfl (same_upd rfl (same_upd rfl (same_upd rfl (same_upd rfl (same_upd rfl (same_upd rfl (same_upd rfl (same_upd rfl (same_upd rfl (same_upd rfl (same_upd rfl (same_upd rfl (same_upd rfl (same_upd rfl (same_upd rfl (same_upd rfl (same_upd rfl (same_upd rfl (same_upd rfl (same_upd rfl (same_upd rfl (same_upd rfl (same_upd rfl (same_ovr)))))))))))))))))))))))))))))))))))
    · have g82 := of_decide_eq_false b42
      refine wp_know 30 (.bool false) (congrArg Value.bool b42) ?_
      have g83 := of_decide_eq_false b42
      refine wp_iff rfl ?_
      refine w_skip ?_
      refine then_normal ?_
      refine k_start H37 [restC w (sepC (bothL b mb r a c L)).fp, cellC b2 54 ([(.pointer (some ⟨b, 0, none⟩)), (.pointer (some ⟨r, 0, none⟩))] : List Value), cellC b6 36 ([(.int .i64 (f)), (.int .i64 (cn))] : List Value), cellC b10 44 (([(.int .i64 (x.cl)), (.int .i64 (x.seq))] : List Value) ++ hc x.h ++ ([(.int .i64 (x.len)), (.int .i64 (x.sb)), (.int .i64 (x.sm))] : List Value)), cellC b14 47 (([(.int .i64 (0)), (.int .i64 (0))] : List Value) ++ hc hash0 ++ ([(.int .i64 (0)), (.int .i64 (0)), (.int .i64 (0)), (.slice none 0 0)] : List Value)), cellC b18 47 (([(.int .i64 (x.cl)), (.int .i64 (x.seq))] : List Value) ++ hc x.h ++ ([(.int .i64 (x.len)), (.int .i64 (x.sb)), (.int .i64 (x.sm)), (.slice da D.length dc)] : List Value))] [12] 13 rfl (by kernel_rfl) (fun Hx => (Hx.pick [4, 5, 6, 7, 8, 9] (by decide))) ?_
      intro w84 H85 S86
      refine k_pure 0 rfl (by kernel_rfl) (by kernel_rfl) (by kernel_rfl) (fun _ _ _ h => h) S86 (wants0 rfl) rfl (d := 37) (v := (.pointer (some ⟨b18, 37, none⟩))) rfl (fun _ => (by kernel_rfl)) ?_
      refine k_val 1 rfl (by kernel_rfl) (by kernel_rfl) (by kernel_rfl) (fun _ _ _ h => h) S86 (wants0 rfl) rfl (by kernel_rfl) (d := 38) (v := (.slice da D.length dc)) rfl (fun _ H' => (e_load1 rfl (by kernel_rfl) (H'.cell 5 rfl (by kernel_rfl)))) ?_
      refine k_val 2 rfl (by kernel_rfl) (by kernel_rfl) (by kernel_rfl) (fun _ _ _ h => h) S86 (wants0 rfl) rfl (by kernel_rfl) (d := 39) (v := (.agg ⟨([(.pointer (some ⟨b, 0, none⟩)), (.pointer (some ⟨r, 0, none⟩))] : List Value)⟩)) rfl (fun _ H' => (e_loadN (vs := ([(.pointer (some ⟨b, 0, none⟩)), (.pointer (some ⟨r, 0, none⟩))] : List Value)) rfl (by kernel_rfl) (by kernel_rfl) (by exact Nat.le_of_ble_eq_true (by kernel_rfl)) (H'.at 1 rfl) (by kernel_rfl))) ?_
      refine k_pure 3 rfl (by kernel_rfl) (by kernel_rfl) (by kernel_rfl) (fun _ _ _ h => h) S86 (wants0 rfl) rfl (d := 40) (v := (.int .i64 (withinV from_ (f + 1)))) rfl (fun _ => (by kernel_rfl)) ?_
      refine k_pure 4 rfl (by kernel_rfl) (by kernel_rfl) (by kernel_rfl) (fun _ _ _ h => h) S86 (wants0 rfl) rfl (d := 41) (v := (.int .i64 ((i : Int)))) rfl (fun _ => (by kernel_rfl)) ?_
      refine k_pure 5 rfl (by kernel_rfl) (by kernel_rfl) (by kernel_rfl) (fun _ _ _ h => h) S86 (wants0 rfl) rfl (d := 42) (v := (.int .i64 ((withinV from_ (f + 1)) + (i : Int)))) rfl (fun _ => (e_int (z := (withinV from_ (f + 1)) + (i : Int)) (by kernel_rfl) (IntWalk.i64_in _ (by omega)))) ?_
      refine k_val 6 rfl (by kernel_rfl) (by kernel_rfl) (by kernel_rfl) (fun _ _ _ h => h) S86 (wants0 rfl) rfl (by kernel_rfl) (d := 43) (v := (.agg ⟨(([(.int .i64 (x.cl)), (.int .i64 (x.seq))] : List Value) ++ hc x.h ++ ([(.int .i64 (x.len)), (.int .i64 (x.sb)), (.int .i64 (x.sm))] : List Value))⟩)) rfl (fun _ H' => (e_loadN (vs := (([(.int .i64 (x.cl)), (.int .i64 (x.seq))] : List Value) ++ hc x.h ++ ([(.int .i64 (x.len)), (.int .i64 (x.sb)), (.int .i64 (x.sm))] : List Value))) rfl (by kernel_rfl) (by kernel_rfl) (by exact Nat.le_of_ble_eq_true (by kernel_rfl)) (H'.at 3 rfl) (by kernel_rfl))) ?_
      refine k_pure 7 rfl (by kernel_rfl) (by kernel_rfl) (by kernel_rfl) (fun _ _ _ h => h) S86 (wants0 rfl) rfl (d := 44) (v := (.int .u64 (5))) rfl (fun _ => (by kernel_rfl)) ?_
      refine k_do 8 rfl (by kernel_rfl) (wants0 rfl) rfl (fun K87 hK87 => ?_)
      refine d_call (d := 45) rfl (by kernel_rfl) (bkStamp_any w84 b mb r ra rc L1 (H85.fin [0, 1, 2, 3] (by decide) rfl) ((withinV from_ (f + 1)) + (i : Int)) x (5 : Int) (by omega) hx (by omega) (by omega) hnd) ?_
      rintro _ w88 ⟨a90, c91, rfl, T89⟩
      obtain ⟨L93, hL93⟩ : ∃ L93 : List Signed, L93 = signL L1 (yS ((withinV from_ (f + 1)) + (i : Int)) x (5 : Int)) := ⟨_, rfl⟩
      rw [← hL93] at T89
      have H94 : Sat w [cellC b 107 ([(.map (some mb))] : List Value), mapC mb signedV (Value.int .i64) (marks L93), cellC r 88 ([(.slice a90 L93.length c91)] : List Value), rowC 120 2 (.slice a90 L93.length c91) L93.length (L93.flatMap encS), restC w (sepC (bothL b mb r a c L)).fp, cellC b2 54 ([(.pointer (some ⟨b, 0, none⟩)), (.pointer (some ⟨r, 0, none⟩))] : List Value), cellC b6 36 ([(.int .i64 (f)), (.int .i64 (cn))] : List Value), cellC b10 44 (([(.int .i64 (x.cl)), (.int .i64 (x.seq))] : List Value) ++ hc x.h ++ ([(.int .i64 (x.len)), (.int .i64 (x.sb)), (.int .i64 (x.sm))] : List Value)), cellC b14 47 (([(.int .i64 (0)), (.int .i64 (0))] : List Value) ++ hc hash0 ++ ([(.int .i64 (0)), (.int .i64 (0)), (.int .i64 (0)), (.slice none 0 0)] : List Value)), cellC b18 47 (([(.int .i64 (x.cl)), (.int .i64 (x.seq))] : List Value) ++ hc x.h ++ ([(.int .i64 (x.len)), (.int .i64 (x.sb)), (.int .i64 (x.sm)), (.slice da D.length dc)] : List Value)), rowC 49 38 (.slice da D.length dc) D.length (D.flatMap encSt)] w88 := (Sat.turnL (L' := [cellC b 107 ([(.map (some mb))] : List Value), mapC mb signedV (Value.int .i64) (marks L93), cellC r 88 ([(.slice a90 L93.length c91)] : List Value), rowC 120 2 (.slice a90 L93.length c91) L93.length (L93.flatMap encS)]) (R := [restC w (sepC (bothL b mb r a c L)).fp, cellC b2 54 ([(.pointer (some ⟨b, 0, none⟩)), (.pointer (some ⟨r, 0, none⟩))] : List Value), cellC b6 36 ([(.int .i64 (f)), (.int .i64 (cn))] : List Value), cellC b10 44 (([(.int .i64 (x.cl)), (.int .i64 (x.seq))] : List Value) ++ hc x.h ++ ([(.int .i64 (x.len)), (.int .i64 (x.sb)), (.int .i64 (x.sm))] : List Value)), cellC b14 47 (([(.int .i64 (0)), (.int .i64 (0))] : List Value) ++ hc hash0 ++ ([(.int .i64 (0)), (.int .i64 (0)), (.int .i64 (0)), (.slice none 0 0)] : List Value)), cellC b18 47 (([(.int .i64 (x.cl)), (.int .i64 (x.seq))] : List Value) ++ hc x.h ++ ([(.int .i64 (x.len)), (.int .i64 (x.sb)), (.int .i64 (x.sm)), (.slice da D.length dc)] : List Value)), rowC 49 38 (.slice da D.length dc) D.length (D.flatMap encSt)]) H85 [0, 1, 2, 3] [4, 5, 6, 7, 8, 9, 10] (by decide) (by kernel_rfl) rfl T89).pick [0, 1, 2, 3, 4, 5, 6, 7, 8, 9, 10] (by decide)
      refine ⟨_, rfl, ?_⟩
      obtain ⟨S92, hS92⟩ : ∃ S92 : StampD, S92 = mkS L1 ((withinV from_ (f + 1)) + (i : Int)) x (5 : Int) := ⟨_, rfl⟩
      rw [← hS92]
      have ndL93 : L93.Nodup := by rw [hL93]; exact signL_nodup hnd _
      have llL93 : L93.length ≤ L1.length + 1 := by rw [hL93]; exact signL_len _ _
      have S95 := H94.pick [4, 5, 6, 7, 8, 9] (by decide)
      refine hK87 _ _ S95 ?_
      clear hK87 K87
      refine k_do 9 rfl (by kernel_rfl) (wants0 rfl) rfl (fun K96 hK96 => ?_)
      refine d_buildSlice (e := 49) (size := 38) (bytes := 80) (z := (.agg ⟨(([(.int .i64 (0)), (.int .i64 (0)), (.int .i64 (0))] : List Value) ++ hc hash0 ++ ([(.int .u64 (0)), (.int .i64 (0)), (.int .i64 (0))] : List Value))⟩)) (pvs := [(0, (.agg ⟨(([(.int .i64 (S92.r)), (.int .i64 (S92.cl)), (.int .i64 (S92.seq))] : List Value) ++ hc S92.h ++ ([(.int .u64 (S92.t)), (.int .i64 (S92.sb)), (.int .i64 (S92.sm))] : List Value))⟩))]) (vs := (([(.int .i64 (S92.r)), (.int .i64 (S92.cl)), (.int .i64 (S92.seq))] : List Value) ++ hc S92.h ++ ([(.int .u64 (S92.t)), (.int .i64 (S92.sb)), (.int .i64 (S92.sm))] : List Value))) rfl H94 (by kernel_rfl) (by kernel_rfl) (by kernel_rfl) (by kernel_rfl) (by kernel_rfl) rfl rfl ?_
      intro b97 w98 (H99 : Sat w [cellC b 107 ([(.map (some mb))] : List Value), mapC mb signedV (Value.int .i64) (marks L93), cellC r 88 ([(.slice a90 L93.length c91)] : List Value), rowC 120 2 (.slice a90 L93.length c91) L93.length (L93.flatMap encS), restC w (sepC (bothL b mb r a c L)).fp, cellC b2 54 ([(.pointer (some ⟨b, 0, none⟩)), (.pointer (some ⟨r, 0, none⟩))] : List Value), cellC b6 36 ([(.int .i64 (f)), (.int .i64 (cn))] : List Value), cellC b10 44 (([(.int .i64 (x.cl)), (.int .i64 (x.seq))] : List Value) ++ hc x.h ++ ([(.int .i64 (x.len)), (.int .i64 (x.sb)), (.int .i64 (x.sm))] : List Value)), cellC b14 47 (([(.int .i64 (0)), (.int .i64 (0))] : List Value) ++ hc hash0 ++ ([(.int .i64 (0)), (.int .i64 (0)), (.int .i64 (0)), (.slice none 0 0)] : List Value)), cellC b18 47 (([(.int .i64 (x.cl)), (.int .i64 (x.seq))] : List Value) ++ hc x.h ++ ([(.int .i64 (x.len)), (.int .i64 (x.sb)), (.int .i64 (x.sm)), (.slice da D.length dc)] : List Value)), rowC 49 38 (.slice da D.length dc) D.length (D.flatMap encSt), rowC 49 38 (.slice (some ⟨b97, 0, none⟩) 1 1) 1 (([(.int .i64 (S92.r)), (.int .i64 (S92.cl)), (.int .i64 (S92.seq))] : List Value) ++ hc S92.h ++ ([(.int .u64 (S92.t)), (.int .i64 (S92.sb)), (.int .i64 (S92.sm))] : List Value))] w98)
      have H100 : Sat w [cellC b 107 ([(.map (some mb))] : List Value), mapC mb signedV (Value.int .i64) (marks L93), cellC r 88 ([(.slice a90 L93.length c91)] : List Value), rowC 120 2 (.slice a90 L93.length c91) L93.length (L93.flatMap encS), restC w (sepC (bothL b mb r a c L)).fp, cellC b2 54 ([(.pointer (some ⟨b, 0, none⟩)), (.pointer (some ⟨r, 0, none⟩))] : List Value), cellC b6 36 ([(.int .i64 (f)), (.int .i64 (cn))] : List Value), cellC b10 44 (([(.int .i64 (x.cl)), (.int .i64 (x.seq))] : List Value) ++ hc x.h ++ ([(.int .i64 (x.len)), (.int .i64 (x.sb)), (.int .i64 (x.sm))] : List Value)), cellC b14 47 (([(.int .i64 (0)), (.int .i64 (0))] : List Value) ++ hc hash0 ++ ([(.int .i64 (0)), (.int .i64 (0)), (.int .i64 (0)), (.slice none 0 0)] : List Value)), cellC b18 47 (([(.int .i64 (x.cl)), (.int .i64 (x.seq))] : List Value) ++ hc x.h ++ ([(.int .i64 (x.len)), (.int .i64 (x.sb)), (.int .i64 (x.sm)), (.slice da D.length dc)] : List Value)), rowC 49 38 (.slice da D.length dc) D.length (D.flatMap encSt), rowC 49 38 (.slice (some ⟨b97, 0, none⟩) 1 1) 1 ([S92].flatMap encSt)] w98 := H99.cast (by rw [(show ((([(.int .i64 (S92.r)), (.int .i64 (S92.cl)), (.int .i64 (S92.seq))] : List Value) ++ hc S92.h ++ ([(.int .u64 (S92.t)), (.int .i64 (S92.sb)), (.int .i64 (S92.sm))] : List Value)) : List Value) = [S92].flatMap encSt by kernel_rfl)])
      have S101 := H100.pick [4, 5, 6, 7, 8, 9] (by decide)
      refine hK96 _ _ S101 ?_
      clear hK96 K96
      refine k_do 10 rfl (by kernel_rfl) (wants0 rfl) rfl (fun K102 hK102 => ?_)
      refine d_append (T := 45) (e := 49) (size := 38) (bytes := 80) rfl H100 (by kernel_rfl) 10 11 rfl rfl rfl rfl (flat_one encSt encSt_one [S92]) (by omega) (by omega) ?_
      intro v103 w104 (H105 : Sat w [cellC b 107 ([(.map (some mb))] : List Value), mapC mb signedV (Value.int .i64) (marks L93), cellC r 88 ([(.slice a90 L93.length c91)] : List Value), rowC 120 2 (.slice a90 L93.length c91) L93.length (L93.flatMap encS), restC w (sepC (bothL b mb r a c L)).fp, cellC b2 54 ([(.pointer (some ⟨b, 0, none⟩)), (.pointer (some ⟨r, 0, none⟩))] : List Value), cellC b6 36 ([(.int .i64 (f)), (.int .i64 (cn))] : List Value), cellC b10 44 (([(.int .i64 (x.cl)), (.int .i64 (x.seq))] : List Value) ++ hc x.h ++ ([(.int .i64 (x.len)), (.int .i64 (x.sb)), (.int .i64 (x.sm))] : List Value)), cellC b14 47 (([(.int .i64 (0)), (.int .i64 (0))] : List Value) ++ hc hash0 ++ ([(.int .i64 (0)), (.int .i64 (0)), (.int .i64 (0)), (.slice none 0 0)] : List Value)), cellC b18 47 (([(.int .i64 (x.cl)), (.int .i64 (x.seq))] : List Value) ++ hc x.h ++ ([(.int .i64 (x.len)), (.int .i64 (x.sb)), (.int .i64 (x.sm)), (.slice da D.length dc)] : List Value)), rowC 49 38 v103 (D.length + 1) ((D.flatMap encSt) ++ ([S92].flatMap encSt)), rowC 49 38 (.slice (some ⟨b97, 0, none⟩) 1 1) 1 ([S92].flatMap encSt)] w104)
      have H108 : Sat w [cellC b 107 ([(.map (some mb))] : List Value), mapC mb signedV (Value.int .i64) (marks L93), cellC r 88 ([(.slice a90 L93.length c91)] : List Value), rowC 120 2 (.slice a90 L93.length c91) L93.length (L93.flatMap encS), restC w (sepC (bothL b mb r a c L)).fp, cellC b2 54 ([(.pointer (some ⟨b, 0, none⟩)), (.pointer (some ⟨r, 0, none⟩))] : List Value), cellC b6 36 ([(.int .i64 (f)), (.int .i64 (cn))] : List Value), cellC b10 44 (([(.int .i64 (x.cl)), (.int .i64 (x.seq))] : List Value) ++ hc x.h ++ ([(.int .i64 (x.len)), (.int .i64 (x.sb)), (.int .i64 (x.sm))] : List Value)), cellC b14 47 (([(.int .i64 (0)), (.int .i64 (0))] : List Value) ++ hc hash0 ++ ([(.int .i64 (0)), (.int .i64 (0)), (.int .i64 (0)), (.slice none 0 0)] : List Value)), cellC b18 47 (([(.int .i64 (x.cl)), (.int .i64 (x.seq))] : List Value) ++ hc x.h ++ ([(.int .i64 (x.len)), (.int .i64 (x.sb)), (.int .i64 (x.sm)), (.slice da D.length dc)] : List Value)), rowC 49 38 v103 ((D ++ [S92]).length) ((D ++ [S92]).flatMap encSt), rowC 49 38 (.slice (some ⟨b97, 0, none⟩) 1 1) 1 ([S92].flatMap encSt)] w104 := H105.cast (by simp only [List.length_append, List.flatMap_append] <;> rfl)
      obtain ⟨a106, c107, rfl⟩ := ownsRow_shape (H108.at 10 rfl)
      have S109 := H108.pick [4, 5, 6, 7, 8, 9] (by decide)
      refine hK102 _ _ S109 ?_
      clear hK102 K102
      refine k_pure 11 rfl (by kernel_rfl) (by kernel_rfl) (by kernel_rfl) (fun _ _ _ h => h) S109 (wants0 rfl) rfl (d := 48) (v := (.pointer (some ⟨b18, 37, none⟩))) rfl (fun _ => (by kernel_rfl)) ?_
      refine k_brk 12 (Sat w [restC w (sepC (bothL b mb r a c L)).fp, cellC b2 54 ([(.pointer (some ⟨b, 0, none⟩)), (.pointer (some ⟨r, 0, none⟩))] : List Value), cellC b6 36 ([(.int .i64 (f)), (.int .i64 (cn))] : List Value), cellC b10 44 (([(.int .i64 (x.cl)), (.int .i64 (x.seq))] : List Value) ++ hc x.h ++ ([(.int .i64 (x.len)), (.int .i64 (x.sb)), (.int .i64 (x.sm))] : List Value)), cellC b14 47 (([(.int .i64 (0)), (.int .i64 (0))] : List Value) ++ hc hash0 ++ ([(.int .i64 (0)), (.int .i64 (0)), (.int .i64 (0)), (.slice none 0 0)] : List Value))]) rfl (by kernel_rfl) (wants0 rfl) rfl (fun K110 hK110 => ?_)
      refine d_storeX (vs := ([(.slice a106 ((D ++ [S92]).length) c107)] : List Value)) (cs' := (([(.int .i64 (x.cl)), (.int .i64 (x.seq))] : List Value) ++ hc x.h ++ ([(.int .i64 (x.len)), (.int .i64 (x.sb)), (.int .i64 (x.sm)), (.slice a106 ((D ++ [S92]).length) c107)] : List Value))) rfl H108 9 rfl rfl rfl rfl (by kernel_rfl) (Nat.le_of_ble_eq_true (by kernel_rfl)) (Nat.le_of_ble_eq_true (by kernel_rfl)) (by kernel_rfl) (by kernel_rfl) ?_
      intro w111 (H112 : Sat w [cellC b 107 ([(.map (some mb))] : List Value), mapC mb signedV (Value.int .i64) (marks L93), cellC r 88 ([(.slice a90 L93.length c91)] : List Value), rowC 120 2 (.slice a90 L93.length c91) L93.length (L93.flatMap encS), restC w (sepC (bothL b mb r a c L)).fp, cellC b2 54 ([(.pointer (some ⟨b, 0, none⟩)), (.pointer (some ⟨r, 0, none⟩))] : List Value), cellC b6 36 ([(.int .i64 (f)), (.int .i64 (cn))] : List Value), cellC b10 44 (([(.int .i64 (x.cl)), (.int .i64 (x.seq))] : List Value) ++ hc x.h ++ ([(.int .i64 (x.len)), (.int .i64 (x.sb)), (.int .i64 (x.sm))] : List Value)), cellC b14 47 (([(.int .i64 (0)), (.int .i64 (0))] : List Value) ++ hc hash0 ++ ([(.int .i64 (0)), (.int .i64 (0)), (.int .i64 (0)), (.slice none 0 0)] : List Value)), cellC b18 47 (([(.int .i64 (x.cl)), (.int .i64 (x.seq))] : List Value) ++ hc x.h ++ ([(.int .i64 (x.len)), (.int .i64 (x.sb)), (.int .i64 (x.sm)), (.slice a106 ((D ++ [S92]).length) c107)] : List Value)), rowC 49 38 (.slice a106 ((D ++ [S92]).length) c107) ((D ++ [S92]).length) ((D ++ [S92]).flatMap encSt), rowC 49 38 (.slice (some ⟨b97, 0, none⟩) 1 1) 1 ([S92].flatMap encSt)] w111)
      have S114 := H112.pick [4, 5, 6, 7, 8] (by decide)
      refine hK110 _ _ S114 ?_
      clear hK110 K110
      refine h_fin (by kernel_rfl) ?_
      refine blk_normal ?_
      refine then_normal ?_
      refine w_lit ?_
      refine wl_pure (wants0 rfl) (d := 25) (v := (.int .i64 ((i : Int)))) rfl (by kernel_rfl) ?_
      refine wl_pure (wants0 rfl) (d := 26) (v := (.int .i64 ((i : Int) + 1))) rfl (e_int (z := (i : Int) + 1) (by kernel_rfl) (IntWalk.i64_in _ (by omega))) ?_
      refine wl_pure (wants0 rfl) (d := 12) (v := (.int .i64 ((i : Int) + 1))) rfl (by kernel_rfl) ?_
      refine w_nil ?_
      have hok2 : ∀ s ∈ (D ++ [S92]), StOk s := fun s hs => by
        rcases List.mem_append.1 hs with h | h
        · exact hok s h
        · rw [List.mem_singleton.1 h, hS92]; exact ⟨by show withinV from_ (f + 1) + (i : Int) ≤ _; omega, hx.1, hx.2.1, by show 0 ≤ (5 : Int); omega, by show (5 : Int) < _; omega⟩
      have H115 : Sat w [cellC b 107 ([(.map (some mb))] : List Value), mapC mb signedV (Value.int .i64) (marks L93), cellC r 88 ([(.slice a90 L93.length c91)] : List Value), rowC 120 2 (.slice a90 L93.length c91) L93.length (L93.flatMap encS), restC w (sepC (bothL b mb r a c L)).fp, cellC b2 54 ([(.pointer (some ⟨b, 0, none⟩)), (.pointer (some ⟨r, 0, none⟩))] : List Value), cellC b6 36 ([(.int .i64 (f)), (.int .i64 (cn))] : List Value), cellC b10 44 (([(.int .i64 (x.cl)), (.int .i64 (x.seq))] : List Value) ++ hc x.h ++ ([(.int .i64 (x.len)), (.int .i64 (x.sb)), (.int .i64 (x.sm))] : List Value)), cellC b14 47 (([(.int .i64 (0)), (.int .i64 (0))] : List Value) ++ hc hash0 ++ ([(.int .i64 (0)), (.int .i64 (0)), (.int .i64 (0)), (.slice none 0 0)] : List Value)), cellC b18 47 (([(.int .i64 (x.cl)), (.int .i64 (x.seq))] : List Value) ++ hc x.h ++ ([(.int .i64 (x.len)), (.int .i64 (x.sb)), (.int .i64 (x.sm)), (.slice a106 ((D ++ [S92]).length) c107)] : List Value)), rowC 49 38 (.slice a106 ((D ++ [S92]).length) c107) ((D ++ [S92]).length) ((D ++ [S92]).flatMap encSt)] w111 := H112.pick [0, 1, 2, 3, 4, 5, 6, 7, 8, 9, 10] (by decide)
      refine round_back ?_ _ ⟨(i + 1), a106, c107, (D ++ [S92]), a90, c91, L93, (show ((.int .i64 ((i : Int) + 1)) : Value) = _ by first | rfl | go_num), (by omega), hok2, ndL93, (by omega), (by simp only [List.length_append, List.length_cons, List.length_nil]; omega), H115, rfl⟩ (by omega)
      exact (same_upd rfl (same_upd rfl (same_upd rfl (same_upd rfl (same_upd rfl (same_upd rfl (same_upd rfl (same_upd rfl (same_upd rfl (same_upd rfl (same_upd rfl (same_upd rfl (same_upd rfl (same_upd rfl (same_upd rfl (same_upd rfl (same_upd rfl (same_upd rfl (same_upd rfl (same_upd rfl (same_upd rfl (same_upd rfl (same_upd rfl (same_upd rfl (same_upd rfl (same_upd rfl (same_upd rfl (same_ovr))))))))))))))))))))))))))))
  · have g116 := of_decide_eq_false b39
    refine wp_know 24 (.bool false) (congrArg Value.bool b39) ?_
    have g117 := of_decide_eq_false b39
    refine wp_iff rfl ?_
    refine w_exit ?_
    refine then_exit ?_
    refine back_exit ?_
    refine blk_hit ?_
    refine then_normal ?_
    refine w_seq ?_
    refine w_lit ?_
    refine wl_pure (wants0 rfl) (d := 49) (v := (.agg ⟨(([(.int .i64 (x.cl)), (.int .i64 (x.seq))] : List Value) ++ hc x.h ++ ([(.int .i64 (x.len)), (.int .i64 (x.sb)), (.int .i64 (x.sm)), (.slice da D.length dc)] : List Value))⟩)) rfl (e_loadN (vs := (([(.int .i64 (x.cl)), (.int .i64 (x.seq))] : List Value) ++ hc x.h ++ ([(.int .i64 (x.len)), (.int .i64 (x.sb)), (.int .i64 (x.sm)), (.slice da D.length dc)] : List Value))) rfl (by kernel_rfl) (by kernel_rfl) (by exact Nat.le_of_ble_eq_true (by kernel_rfl)) (H37.at 9 rfl) (by kernel_rfl)) ?_
    refine wl_do (wants0 rfl) (fun K118 hK118 => ?_)
    refine d_storeX (vs := (([(.int .i64 (x.cl)), (.int .i64 (x.seq))] : List Value) ++ hc x.h ++ ([(.int .i64 (x.len)), (.int .i64 (x.sb)), (.int .i64 (x.sm)), (.slice da D.length dc)] : List Value))) (cs' := (([(.int .i64 (x.cl)), (.int .i64 (x.seq))] : List Value) ++ hc x.h ++ ([(.int .i64 (x.len)), (.int .i64 (x.sb)), (.int .i64 (x.sm)), (.slice da D.length dc)] : List Value))) rfl H37 8 rfl rfl rfl rfl (by kernel_rfl) (Nat.le_of_ble_eq_true (by kernel_rfl)) (Nat.le_of_ble_eq_true (by kernel_rfl)) (by kernel_rfl) (by kernel_rfl) ?_
    intro w119 (H120 : Sat w [cellC b 107 ([(.map (some mb))] : List Value), mapC mb signedV (Value.int .i64) (marks L1), cellC r 88 ([(.slice ra L1.length rc)] : List Value), rowC 120 2 (.slice ra L1.length rc) L1.length (L1.flatMap encS), restC w (sepC (bothL b mb r a c L)).fp, cellC b2 54 ([(.pointer (some ⟨b, 0, none⟩)), (.pointer (some ⟨r, 0, none⟩))] : List Value), cellC b6 36 ([(.int .i64 (f)), (.int .i64 (cn))] : List Value), cellC b10 44 (([(.int .i64 (x.cl)), (.int .i64 (x.seq))] : List Value) ++ hc x.h ++ ([(.int .i64 (x.len)), (.int .i64 (x.sb)), (.int .i64 (x.sm))] : List Value)), cellC b14 47 (([(.int .i64 (x.cl)), (.int .i64 (x.seq))] : List Value) ++ hc x.h ++ ([(.int .i64 (x.len)), (.int .i64 (x.sb)), (.int .i64 (x.sm)), (.slice da D.length dc)] : List Value)), cellC b18 47 (([(.int .i64 (x.cl)), (.int .i64 (x.seq))] : List Value) ++ hc x.h ++ ([(.int .i64 (x.len)), (.int .i64 (x.sb)), (.int .i64 (x.sm)), (.slice da D.length dc)] : List Value)), rowC 49 38 (.slice da D.length dc) D.length (D.flatMap encSt)] w119)
    refine hK118 _ _ ?_
    clear hK118 K118
    refine w_nil ?_
    refine then_normal ?_
    refine w_ret ?_
    refine end1 rfl (res_cellN (vs := (([(.int .i64 (x.cl)), (.int .i64 (x.seq))] : List Value) ++ hc x.h ++ ([(.int .i64 (x.len)), (.int .i64 (x.sb)), (.int .i64 (x.sm)), (.slice da D.length dc)] : List Value))) rfl (by kernel_rfl) (by kernel_rfl) (by exact Nat.le_of_ble_eq_true (by kernel_rfl)) (H120.at 8 rfl) (by kernel_rfl)) ?_
    exact ⟨ra, rc, L1, da, dc, D, rfl, by omega, hok, hnd, by omega, H120.pick [0, 1, 2, 3, 10, 4] (by decide)⟩

end Go.Proofs.Ytbpeofcoceaahaa
