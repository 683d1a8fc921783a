/- WHAT IS PROVED: contracts and plain laws of TabG, RbD, RefB. Conditions: stated with each. -/
import Derived.Test.YtenihpghfdcpkaaGreatT05
import Derived.Test.YtenihpghfdcpkaaGreatT06
import Derived.Test.YtenihpghfdcpkaaGreatT11
import Derived.Test.YtenihpghfdcpkaaGreatT16
set_option maxHeartbeats 4000000
set_option maxRecDepth 100000
namespace Go.Proofs.YtenihpghfdcpkaaGreat
open Go.RowKit
abbrev kTabG_0 (p0 : Int) (p1 : Int) : List Value := ([(.int .i64 p0), (.int .i64 p1)] : List Value)
abbrev kTabG_1 : List Value := ([(.int .i64 (0)), (.int .i64 (0))] : List Value) ++ hc hash0 ++ ([(.int .i64 (0)), (.int .i64 (0)), (.int .i64 (0)), (.slice none 0 0)] : List Value)
abbrev kTabG_2 (p0 : CeR) : List Value := ([(.int .i64 p0.x.cl), (.int .i64 p0.x.seq)] : List Value) ++ hc p0.x.h ++ ([(.int .i64 p0.x.len), (.int .i64 p0.x.sb), (.int .i64 p0.x.sm), (.slice p0.sa p0.S.length p0.sc)] : List Value)
theorem rGet_any (w : World) (t : Nat) (F Cn rp : Int) (la : Option Addr) (lc : Nat) (L : List CeR) (ht : (cellC t 107 [.int .i64 F, .int .i64 Cn, .int .i64 rp, .slice la L.length lc]).ok w) (hrow : (rowC 76 38 (.slice la L.length lc) L.length (L.flatMap encCe)).ok w) (hlL : L.length ≤ 64) (a b : Int) :
  Calls Tryz.prog 86 #[(.pointer (some ⟨t, 0, none⟩)), (.agg ⟨([(.int .i64 (a)), (.int .i64 (b))] : List Value)⟩)] w fun e w' => e = .returned (.tuple #[.agg ⟨encCe ((findT L a b).getD ce0)⟩, .bool (findT L a b).isSome]) ∧ Upd [] w w' := by
 have H := Sat.start0 w
 have hlL0 := hlL
 refine calls_fr Tryz.func86 rfl 35 rfl (Nat.le_of_ble_eq_true rfl) ?_
 refine zsl <| zwd fun Kq kq => zdb (kTabG_0 a b) H fun b2 w3 H4 => ?_
 refine kq _ _ <| zwd fun Kq kq => zda (kTabG_1) H4 fun b6 w7 H8 => ?_
 refine kq _ _ <| wv 5 (.bool false) <| znt <| w_seq <| zsl <| wv 7 (pt t 0) <| wv 8 (pt t 0) <| wv 9 (pt t 3) <| zw1 10 (.slice la L.length lc) (H8.roCell 0 rfl ht (fun h => h) rfl) <| wv 11 (.int .i64 ((L.length : Int))) ?_
 refine wv 12 (.int .i64 (0)) <| znt <| w_block <| wp_round ([5, 6] ++ List.range' 12 22) (fun F_ W_ m_ => ∃ (i : Nat), F_ 12 = (.int .i64 ((i : Int))) ∧ (i ≤ L.length) ∧ (∀ j, j < i → ∀ y, L[j]? = some y → ¬ (y.x.cl = a ∧ y.x.seq = b)) ∧ Sat w [restC w (fun _ => False), cellC b2 59 (kTabG_0 a b), cellC b6 76 (kTabG_1)] W_ ∧ m_ = L.length - i) _ ⟨0, (show ((.int .i64 (0)) : Value) = _ by first | rfl | go_num), (Nat.zero_le _), (fun _ h => absurd h (Nat.not_lt_zero _)), H8, rfl⟩ ?_
 rintro g9 w10 _ ⟨i, v12, hi, hno, H11, rfl⟩
 refine wp_know 12 _ v12 ?_
 refine zsl <| wv 13 (.bool (decide ((i : Int) < (L.length : Int)))) <| znt <| w_seq ?_
 refine (bsplit (decide ((i : Int) < (L.length : Int)))).elim (fun b14 => ?_) (fun b14 => ?_)
 ·have g15 := of_decide_eq_true b14
  refine zwkt _ b14 ?_
  refine w_skip <| ztn <| w_seq <| w_block <| zsl <| wv 14 (.int .i64 ((i : Int))) <| wv 6 (.int .i64 ((i : Int))) <| znt <| w_seq <| zqs H11 ?_
  refine qv 15 (pt t 0) <| qv 16 (pt t 0) <| qv 17 (pt t 3) <| qv 18 (.slice la L.length lc) ?_ (hr := fun _ H' => (zl1 (H'.roCell 0 rfl ht (fun h => h) rfl)))
  refine qv 19 (.int .i64 ((i : Int))) ?_
  obtain ⟨g17, c18, e19⟩ := row_shape hrow (by omega)
  obtain ⟨x20, h21⟩ := get_at (show i < L.length by omega)
  refine qv 20 (.pointer (some ⟨g17, 0 + ((i : Int)).toNat * 38, none⟩)) ?_ (hr := fun _ H' => (e_indexAddrV (E := 76) (by kernel_rfl) (by kernel_rfl) (Nat.le_of_ble_eq_true rfl) rfl e19 rfl (by omega) (by omega)))
  refine qv 21 (.pointer (some ⟨g17, 0 + ((i : Int)).toNat * 38, none⟩)) <| qv 22 (.pointer (some ⟨g17, 0 + ((i : Int)).toNat * 38, none⟩)) <| qv 23 (.agg ⟨(kTabG_0 x20.x.cl x20.x.seq)⟩) ?_ (hr := fun _ H' => (e_loadRun (vs := (kTabG_0 x20.x.cl x20.x.seq)) rfl (by kernel_rfl) (by kernel_rfl) (Nat.le_of_ble_eq_true (by kernel_rfl)) (rows_run (H'.roCk 0 rfl hrow (fun _ _ h => h)) e19 encCe_len h21 0 (show 0 + ((i : Int)).toNat * 38 = i * 38 + 0 by omega) (by kernel_rfl) (by kernel_rfl))))
  refine qv 24 (.agg ⟨(kTabG_0 a b)⟩) ?_ (hr := fun _ H' => (zlN (vs := (kTabG_0 a b)) (H'.at 1 rfl)))
  refine qv 25 (.bool (decide (x20.x.cl = a ∧ x20.x.seq = b))) ?_ (hr := fun _ H' => (e_eqName x20.x.cl x20.x.seq a b rfl rfl))
  refine q_end ?_
  intro w22 H23
  apply ztn
  refine (bsplit (decide (x20.x.cl = a ∧ x20.x.seq = b))).elim (fun b24 => ?_) (fun b24 => ?_)
  ·refine zwkt _ b24 ?_
   refine zsl <| wv 26 (pt t 0) <| wv 27 (pt t 0) <| wv 28 (pt t 3) <| zw1 29 (.slice la L.length lc) (H23.roCell 0 rfl ht (fun h => h) rfl) <| wv 30 (.int .i64 ((i : Int))) <| wv 31 (.pointer (some ⟨g17, 0 + ((i : Int)).toNat * 38, none⟩)) ?_ (hr := e_indexAddrV (E := 76) (by kernel_rfl) (by kernel_rfl) (Nat.le_of_ble_eq_true rfl) rfl e19 rfl (by omega) (by omega))
   refine wv 32 (.agg ⟨(kTabG_2 x20)⟩) ?_ (hr := e_loadRun (vs := (kTabG_2 x20)) rfl (by kernel_rfl) (by kernel_rfl) (Nat.le_of_ble_eq_true (by kernel_rfl)) (rows_run (H23.roCk 0 rfl hrow (fun _ _ h => h)) e19 encCe_len h21 0 (show 0 + ((i : Int)).toNat * 38 = i * 38 + 0 by omega) (by kernel_rfl) (by kernel_rfl)))
   refine zwd fun Kq kq => zds1 (kTabG_2 x20) H23 2 fun w26 H27 => ?_
   refine kq _ _ <| wv 5 (.bool true) <| znt <| w_ret <| blk_ret <| then_ret <| back_ret <| blk_ret <| then_ret <| end2 rfl (res_cellN (vs := (kTabG_2 x20)) rfl (by kernel_rfl) (by kernel_rfl) (Nat.le_of_ble_eq_true (by kernel_rfl)) (H27.at 2 rfl) (by kernel_rfl)) (res_tmp (v := (.bool true)) rfl) ?_
   exact ⟨by rw [find_hit hno h21 b24]; rfl, H27.upd 0 rfl [] (fun _ h => h.elim)⟩
  refine zwkf _ b24 ?_
  refine w_skip <| blk_normal <| ztn <| w_lit <| zwi 33 ((i : Int) + 1) <| wv 12 (.int .i64 ((i : Int) + 1)) <| w_nil <| round_back ?_ _ ⟨(i + 1), rfl, (by omega), (find_step hno h21 b24), H23, rfl⟩ (by omega)
  exact zs
 have g29 := of_decide_eq_false b14
 refine zwkf _ b14 ?_
 refine zxb <| ztn <| zsl <| wv 34 (.agg ⟨(kTabG_1)⟩) <| zwd fun Kq kq => zds1 (kTabG_1) H11 2 fun w32 H33 => ?_
 refine kq _ _ <| wv 5 (.bool false) <| znt <| w_ret <| end2 rfl (res_cellN (vs := (kTabG_1)) rfl (by kernel_rfl) (by kernel_rfl) (Nat.le_of_ble_eq_true (by kernel_rfl)) (H33.at 2 rfl) (by kernel_rfl)) (res_tmp (v := (.bool false)) rfl) ?_
 exact ⟨by rw [find_none hno (show L.length ≤ i by omega)]; kernel_rfl, H33.upd 0 rfl [] (fun _ h => h.elim)⟩
def encS (x : Signed) : List Value := [.int .i64 x.p, strV x.s]
theorem encS_len (x : Signed) : (encS x).length = 2 := rfl
theorem BytesAt.now {W w : World} {G : List Ck} {v : Value} {s : List UInt8} (H : Sat W G w) (j : Nat) (hj : G[j]? = Option.some (restC W fun _ => False)) (hv : BytesAt W v s) : BytesAt w v s :=
 SliceOf.mono hv fun _ _ h => H.cellR j hj h (fun h => h)
abbrev kRefB_0 (p0 : Option Addr) (p1 : Nat) (p2 : Nat) : List Value := ([(.slice p0 p1 p2)] : List Value)
abbrev kRefB_1 (p0 : Option Addr) (p1 : List Signed) (p2 : Nat) : Ck := rowC 181 2 (.slice p0 p1.length p2) p1.length (p1.flatMap encS)
abbrev kRefB_2 (p0 : Int) (p1 : Int) : List Value := ([(.int .i64 p0), (.int .i64 p1)] : List Value)
abbrev kRefB_3 : List Value := ([(.int .i64 (0)), (.int .i64 (0))] : List Value)
abbrev kRefB_4 (p0 : Int) (p1 : Value) : List Value := ([(.int .i64 p0), p1] : List Value)
def rbkL (r : Nat) (a : Option Addr) (c : Nat) (L : List Signed) (tv : Value) (tx : List UInt8) : List Ck := [cellC r 165 [.slice a L.length c], rowC 181 2 (.slice a L.length c) L.length (L.flatMap encS), rowC 5 1 tv tx.length (tx.flatMap encB)]
theorem markOf_at {L : List Signed} (hn : L.Nodup) {i : Nat} {y : Signed} (h : L[i]? = some y) : markOf L y = (i : Int) + 1 := by
 obtain ⟨hi, rfl⟩ := List.getElem?_eq_some_iff.1 h
 have : L.idxOf? L[i] = some i := by
  rw [List.idxOf?_eq_some_iff]
  refine ⟨hi, rfl, fun j hj e => ?_⟩
  have := List.pairwise_iff_getElem.1 hn j i (by omega) hi hj
  exact this e
 unfold markOf; rw [this]; rfl
theorem markOf_no {L : List Signed} {y : Signed} (h : y ∉ L) : markOf L y = 0 := by
 unfold markOf
 cases hq : L.idxOf? y with
 | none => rfl
 | some i =>
  obtain ⟨h1, h2, _⟩ := List.idxOf?_eq_some_iff.1 hq
  exact absurd (h2 ▸ List.getElem_mem h1) h
theorem right_iff {L : List Signed} (hn : L.Nodup) {p m : Int} {tx : List UInt8} : rightB L p m tx = true ↔ ∃ i : Nat, L[i]? = some ⟨p, tx⟩ ∧ m = (i : Int) + 1 := by
 unfold rightB
 simp only [Bool.and_eq_true, decide_eq_true_eq]
 constructor
 ·rintro ⟨h1, h2⟩
  by_cases hm : (⟨p, tx⟩ : Signed) ∈ L
  ·obtain ⟨i, hi, e⟩ := List.mem_iff_getElem.1 hm
   have h3 : L[i]? = some ⟨p, tx⟩ := by rw [List.getElem?_eq_getElem hi, e]
   exact ⟨i, h3, by have := markOf_at hn h3; omega⟩
  rw [markOf_no hm] at h1; omega
 rintro ⟨i, h1, h2⟩
 have := markOf_at hn h1
 omega
theorem no_step {L : List Signed} {i : Nat} {x : Signed} {y : Signed} (hx : L[i]? = some x) (hne : ¬ x = y) (h : y ∉ L.take i) : y ∉ L.take (i + 1) := by
 rw [List.take_add_one, hx, List.mem_append]
 rintro (q | q)
 ·exact h q
 simp at q; exact hne q.symm
theorem rbSign_any (w : World) (r : Nat) (a : Option Addr) (c : Nat) (L : List Signed) (tv : Value) (tx : List UInt8) (hB : (sepC (rbkL r a c L tv tx)).ok w) (hl : L.length ≤ 1000000) (hn : L.Nodup) (p : Int) :
  Calls Tryz.prog 40 #[(.pointer (some ⟨r, 0, none⟩)), (.int .i64 (p)), tv] w fun e w' => ∃ a' c', e = .returned (.agg #[.int .i64 p, .int .i64 (markOf (signL L (⟨p, tx⟩ : Signed)) (⟨p, tx⟩ : Signed))]) ∧ Sat w [cellC r 165 [.slice a' (signL L (⟨p, tx⟩ : Signed)).length c'], rowC 181 2 (.slice a' (signL L (⟨p, tx⟩ : Signed)).length c') (signL L (⟨p, tx⟩ : Signed)).length ((signL L (⟨p, tx⟩ : Signed)).flatMap encS), rowC 5 1 tv tx.length (tx.flatMap encB), restC w (sepC (rbkL r a c L tv tx)).fp] w' := by
 have H := Sat.start (rbkL r a c L tv tx) hB
 refine calls_fr Tryz.func40 rfl 64 rfl (Nat.le_of_ble_eq_true rfl) ?_
 refine zsl <| zwd fun Kq kq => zda (kRefB_3) H fun b2 w3 H4 => ?_
 refine kq _ _ <| znt <| w_seq <| zsl <| wv 8 (pt r 0) <| wv 9 (pt r 0) <| wv 10 (pt r 0) <| zw1 11 (.slice a L.length c) (H4.cell 0 rfl rfl) <| wv 12 (.int .i64 ((L.length : Int))) <| wv 13 (.int .i64 (0)) ?_
 refine znt <| w_block <| wp_round ([7] ++ List.range' 13 31) (fun F_ W_ m_ => ∃ (i : Nat), F_ 13 = (.int .i64 ((i : Int))) ∧ (i ≤ L.length) ∧ ((⟨p, tx⟩ : Signed) ∉ L.take i) ∧ Sat w [cellC r 165 (kRefB_0 a L.length c), (kRefB_1 a L c), rowC 5 1 tv tx.length (tx.flatMap encB), restC w (sepC (rbkL r a c L tv tx)).fp, cellC b2 69 (kRefB_3)] W_ ∧ m_ = L.length + 1 - i) _ ⟨0, (show ((.int .i64 (0)) : Value) = _ by first | rfl | go_num), by omega, by simp, H4, rfl⟩ ?_
 rintro g5 w6 _ ⟨i, v8, hi, hno, H7, rfl⟩
 refine wp_know 13 _ v8 ?_
 refine zsl <| wv 14 (.bool (decide ((i : Int) < (L.length : Int)))) <| znt <| w_seq ?_
 refine (bsplit (decide ((i : Int) < (L.length : Int)))).elim (fun b10 => ?_) (fun b10 => ?_)
 ·have g11 := of_decide_eq_true b10
  refine zwkt _ b10 ?_
  refine w_skip <| ztn <| w_seq <| w_block <| zsl <| wv 15 (.int .i64 ((i : Int))) <| wv 7 (.int .i64 ((i : Int))) <| znt <| w_seq <| zqs H7 ?_
  refine qv 16 (pt r 0) <| qv 17 (pt r 0) <| qv 18 (pt r 0) <| qv 19 (.slice a L.length c) ?_ (hr := fun _ H' => (zl1 (H'.cell 0 rfl rfl)))
  refine qv 20 (.int .i64 ((i : Int))) ?_
  obtain ⟨g13, c14, e15⟩ := row_shape (H7.at 1 rfl) (by omega)
  obtain ⟨x16, h17⟩ := get_at (show i < L.length by omega)
  refine qv 21 (.pointer (some ⟨g13, 0 + ((i : Int)).toNat * 2, none⟩)) ?_ (hr := fun _ H' => (e_indexAddrV (E := 181) (by kernel_rfl) (by kernel_rfl) (Nat.le_of_ble_eq_true rfl) rfl e15 rfl (by omega) (by omega)))
  refine qv 22 (.pointer (some ⟨g13, 0 + ((i : Int)).toNat * 2, none⟩)) <| qv 23 (.int .i64 (x16.p)) ?_ (hr := fun _ H' => (zl1 (rows_cell (H'.at 1 rfl) e15 encS_len h17 0 rfl (show 0 + ((i : Int)).toNat * 2 = i * 2 + 0 by omega) (by kernel_rfl))))
  refine qv 24 (.int .i64 (p)) <| qv 25 (.bool (decide (x16.p = p))) <| qv 26 (.bool (decide (x16.p = p))) ?_
  refine (bsplit (decide (x16.p = p))).elim (fun b18 => ?_) (fun b18 => ?_)
  ·have g19 := of_decide_eq_true b18
   refine q_know 26 (.bool true) (congrArg Value.bool b18) ?_
   refine qy 10 26 true 27 (pt r 0) <| qy 10 26 true 28 (pt r 0) <| qy 10 26 true 29 (pt r 0) <| qy 10 26 true 30 (.slice a L.length c) ?_ (hr := fun _ H' => (zl1 (H'.cell 0 rfl rfl)))
   refine qy 10 26 true 31 (.int .i64 ((i : Int))) <| qy 10 26 true 32 (.pointer (some ⟨g13, 0 + ((i : Int)).toNat * 2, none⟩)) ?_ (hr := fun _ H' => (e_indexAddrV (E := 181) (by kernel_rfl) (by kernel_rfl) (Nat.le_of_ble_eq_true rfl) rfl e15 rfl (by omega) (by omega)))
   refine qy 10 26 true 33 (.pointer (some ⟨g13, 0 + ((i : Int)).toNat * 2 + 1, none⟩)) <| qy 10 26 true 34 (strV x16.s) ?_ (hr := fun _ H' => (zl1 (rows_cell (H'.at 1 rfl) e15 encS_len h17 1 rfl (show 0 + ((i : Int)).toNat * 2 + 1 = i * 2 + 1 by omega) (by kernel_rfl))))
   refine qy 10 26 true 35 (tv) <| qy 10 26 true 36 (strV tx) ?_ (hr := fun _ H' => (e_convBytes (e := 5) (s := tx) (by kernel_rfl) (by kernel_rfl) (by kernel_rfl) rfl (list_bytes (ListAt.row (e := 5) (enc := encB) (sz := 1) (v := tv) (n := tx.length) (xs := tx) encB_len (by decide) (H'.at 2 rfl)))))
   refine qy 10 26 true 37 (.bool (decide (x16.s = tx))) ?_ (hr := fun _ H' => (e_eqStr x16.s tx rfl rfl))
   refine qv 38 (.bool (decide (x16.s = tx))) <| q_end fun w21 H22 => ?_
   apply ztn
   refine (bsplit (decide (x16.s = tx))).elim (fun b23 => ?_) (fun b23 => ?_)
   ·have g24 := of_decide_eq_true b23
    refine zwkt _ b23 ?_
    refine zsl <| wv 39 (.int .i64 (p)) <| wv 40 (.int .i64 ((i : Int))) <| zwi 41 ((i : Int) + 1) <| wv 42 (.agg ⟨(kRefB_2 p ((i : Int) + 1))⟩) <| zwd fun Kq kq => d_store (vs := (kRefB_2 p ((i : Int) + 1))) rfl H22 4 rfl rfl rfl rfl (by kernel_rfl) (Nat.le_of_ble_eq_true (by kernel_rfl)) (Nat.le_of_ble_eq_true (by kernel_rfl)) (by kernel_rfl) fun w27 H28 => ?_
    refine kq _ _ <| znt <| w_ret <| blk_ret <| then_ret <| back_ret <| blk_ret <| then_ret <| end1 rfl (res_cellN (vs := (kRefB_2 p ((i : Int) + 1))) rfl (by kernel_rfl) (by kernel_rfl) (Nat.le_of_ble_eq_true (by kernel_rfl)) (H28.at 4 rfl) (by kernel_rfl)) ?_
    have hy : L[i]? = some (⟨p, tx⟩ : Signed) := by rw [h17]; congr 1; have q1 := of_decide_eq_true b18; have q2 := of_decide_eq_true b23; rw [← q1, ← q2]
    have hm : (⟨p, tx⟩ : Signed) ∈ L := List.mem_of_getElem? hy
    refine ⟨a, c, ?_, ?_⟩
    ·rw [signL_of_mem hm, markOf_at hn hy]
    rw [signL_of_mem hm]; exact H28.pk [0, 1, 2, 3]
   have g29 := of_decide_eq_false b23
   refine zwkf _ b23 ?_
   refine w_skip <| blk_normal <| ztn <| w_lit <| zwi 43 ((i : Int) + 1) <| wv 13 (.int .i64 ((i : Int) + 1)) <| w_nil <| round_back ?_ _ ⟨(i + 1), rfl, by omega, (no_step h17 (fun e => by first | exact absurd (congrArg Signed.s e) (of_decide_eq_false b23) | exact absurd (congrArg Signed.p e) (of_decide_eq_false b23)) hno), H22, rfl⟩ (by omega)
   exact zs
  have g32 := of_decide_eq_false b18
  refine q_know 26 (.bool false) (congrArg Value.bool b18) ?_
  iterate 11 refine qn 10 26 true ?_
  refine qv 38 (.bool false) <| q_end fun w34 H35 => ?_
  refine ztn <| wp_iff rfl ?_
  refine w_skip <| blk_normal <| ztn <| w_lit <| zwi 43 ((i : Int) + 1) <| wv 13 (.int .i64 ((i : Int) + 1)) <| w_nil <| round_back ?_ _ ⟨(i + 1), rfl, by omega, (no_step h17 (fun e => by first | exact absurd (congrArg Signed.s e) (of_decide_eq_false b18) | exact absurd (congrArg Signed.p e) (of_decide_eq_false b18)) hno), H35, rfl⟩ (by omega)
  exact zs
 have g36 := of_decide_eq_false b10
 refine zwkf _ b10 ?_
 refine zxb <| ztn <| w_seq <| k_start H7 [cellC r 165 (kRefB_0 a L.length c), rowC 5 1 tv tx.length (tx.flatMap encB), restC w (sepC (rbkL r a c L tv tx)).fp, cellC b2 69 (kRefB_3)] [13] 14 rfl (by kernel_rfl) (fun Hx => (Hx.pk [0, 2, 3, 4])) fun w38 H39 S40 => ?_
 refine zkp 0 S40 44 (pt r 0) <| zkp 1 S40 45 (pt r 0) <| zkp 2 S40 46 (pt r 0) <| zkp 3 S40 47 (pt r 0) <| zkv 4 S40 48 (.slice a L.length c) ?_ (he := fun _ H' => (zl1 (H'.cell 0 rfl rfl)))
 refine zkp 5 S40 49 (.int .i64 (p)) <| zkp 6 S40 50 tv <| k_val 7 rfl (by kernel_rfl) (by kernel_rfl) (by kernel_rfl) (fun _ _ _ h => h) S40 (wants0 rfl) rfl (by kernel_rfl) (d := 51) (v := (strV tx)) rfl (fun _ H' => (e_convBytes (e := 5) (s := tx) (by kernel_rfl) (by kernel_rfl) (by kernel_rfl) rfl (list_bytes (ListAt.row (e := 5) (enc := encB) (sz := 1) (v := tv) (n := tx.length) (xs := tx) encB_len (by decide) (H'.at 1 rfl))))) ?_
 refine k_pure 8 rfl (by kernel_rfl) (by kernel_rfl) (by kernel_rfl) (fun _ _ _ h => h) S40 (wants0 rfl) rfl (d := 52) (v := (.agg ⟨(kRefB_4 p (strV tx))⟩)) rfl (fun _ => (by kernel_rfl)) ?_
 refine zkd0 9 fun Kq kq => ?_
 refine zdbs 181 2 24 (.agg ⟨([(.int .i64 (0)), (strV ([] : List UInt8))] : List Value)⟩) [(0, (.agg ⟨(kRefB_4 p (strV tx))⟩))] (kRefB_4 p (strV tx)) H39 ?_
 intro b42 w43 H44
 have S45 := H44.pk [0, 2, 3, 4]
 refine kq _ _ S45 <| zkd0 10 fun Kq kq => ?_
 refine d_append (T := 163) (e := 181) (size := 2) (bytes := 24) rfl H44 (by kernel_rfl) 1 5 rfl rfl rfl rfl (by kernel_rfl) (by omega) (by omega) ?_
 intro v47 w48 H49
 have H52 : Sat w [cellC r 165 (kRefB_0 a L.length c), rowC 181 2 v47 ((L ++ [(⟨p, tx⟩ : Signed)]).length) ((L ++ [(⟨p, tx⟩ : Signed)]).flatMap encS), rowC 5 1 tv tx.length (tx.flatMap encB), restC w (sepC (rbkL r a c L tv tx)).fp, cellC b2 69 (kRefB_3), rowC 181 2 (.slice (some ⟨b42, 0, none⟩) 1 1) 1 (kRefB_4 p (strV tx))] w48 := H49.cast (by simp only [List.length_append, List.flatMap_append] <;> rfl)
 obtain ⟨a50, c51, rfl⟩ := ownsRow_shape (H52.at 1 rfl)
 have S53 := H52.pk [0, 2, 3, 4]
 refine kq _ _ S53 <| zkp 11 S53 55 (pt r 0) <| zkp 12 S53 56 (pt r 0) <| k_brk 13 (Sat w [rowC 5 1 tv tx.length (tx.flatMap encB), restC w (sepC (rbkL r a c L tv tx)).fp, cellC b2 69 (kRefB_3)]) rfl (by kernel_rfl) (wants0 rfl) rfl (fun Kq kq => ?_)
 refine d_store (vs := (kRefB_0 a50 ((L ++ [(⟨p, tx⟩ : Signed)]).length) c51)) rfl H52 0 rfl rfl rfl rfl (by kernel_rfl) (Nat.le_of_ble_eq_true (by kernel_rfl)) (Nat.le_of_ble_eq_true (by kernel_rfl)) (by kernel_rfl) ?_
 intro w55 H56
 have S58 := H56.pk [2, 3, 4]
 refine kq _ _ S58 <| zhf <| ztn <| zsl <| wv 57 (.int .i64 (p)) <| wv 58 (pt r 0) <| wv 59 (pt r 0) <| wv 60 (pt r 0) <| zw1 61 (.slice a50 ((L ++ [(⟨p, tx⟩ : Signed)]).length) c51) (H56.cell 0 rfl rfl) <| wv 62 (.int .i64 (((L ++ [(⟨p, tx⟩ : Signed)]).length : Int))) ?_
 refine wv 63 (.agg ⟨(kRefB_2 p (((L ++ [(⟨p, tx⟩ : Signed)]).length : Int)))⟩) <| zwd fun Kq kq => d_store (vs := (kRefB_2 p (((L ++ [(⟨p, tx⟩ : Signed)]).length : Int)))) rfl H56 4 rfl rfl rfl rfl (by kernel_rfl) (Nat.le_of_ble_eq_true (by kernel_rfl)) (Nat.le_of_ble_eq_true (by kernel_rfl)) (by kernel_rfl) fun w60 H61 => ?_
 refine kq _ _ <| znt <| w_ret <| end1 rfl (res_cellN (vs := (kRefB_2 p (((L ++ [(⟨p, tx⟩ : Signed)]).length : Int)))) rfl (by kernel_rfl) (by kernel_rfl) (Nat.le_of_ble_eq_true (by kernel_rfl)) (H61.at 4 rfl) (by kernel_rfl)) ?_
 have hno2 : (⟨p, tx⟩ : Signed) ∉ L := by rw [List.take_of_length_le (show L.length ≤ i by omega)] at hno; exact hno
 have hsl : signL L (⟨p, tx⟩ : Signed) = L ++ [(⟨p, tx⟩ : Signed)] := by unfold signL; rw [if_neg hno2]
 have hnd : (L ++ [(⟨p, tx⟩ : Signed)]).Nodup := by rw [List.nodup_append]; exact ⟨hn, by simp, fun x hx y hy => by rw [List.mem_singleton.1 hy]; exact fun e => hno2 (e ▸ hx)⟩
 have hat : (L ++ [(⟨p, tx⟩ : Signed)])[L.length]? = some (⟨p, tx⟩ : Signed) := by simp
 refine ⟨a50, c51, ?_, ?_⟩
 ·rw [hsl, markOf_at hnd hat]; first | rfl | simp
 rw [hsl]; exact H61.pk [0, 1, 2, 3]
end Go.Proofs.YtenihpghfdcpkaaGreat
