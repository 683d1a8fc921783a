/- WHAT IS PROVED: the walk of BatchEntries. Conditions: stated with each. -/
import Derived.Test.YtenihpghfdcpkaaRightD
import Derived.Test.YtenihpghfdcpkaaMinMax
import Derived.Test.YtenihpghfdcpkaaListAt
import Derived.Test.YtenihpghfdcpkaaEntM
import Derived.Test.YtenihpghfdcpkaaOpenP12
import Derived.Test.YtenihpghfdcpkaaBatD
import Derived.Test.YtenihpghfdcpkaaEnB
import Derived.Test.YtenihpghfdcpkaaEnC
import Derived.Test.YtenihpghfdcpkaaBatW
namespace Go.Proofs.Ytenihpghfdcpkaa
open Go.RowKit

set_option maxRecDepth 100000 in
set_option maxHeartbeats 400000 in
theorem copyS_any (w : World) (v : Value) (S : List StampD) (hS : ListAt encSt 38 w v S) (hx : S.length ≤ 1000000) :
    Calls Try.prog 19 #[(v)] w fun e w' => ∃ u, e = .returned u ∧ (rowC 46 38 u S.length (S.flatMap encSt)).ok w' ∧ Upd [] w w' ∧ ∀ b, (rowC 46 38 u S.length (S.flatMap encSt)).fp b → w.heap.size ≤ b := by
  have H := Sat.start0 w
  refine calls_fr Try.func19 rfl 5 rfl (Nat.le_of_ble_eq_true rfl) ?_
  refine w_seq ?_
  refine w_lit ?_
  refine wl_pure (wants0 rfl) (d := 2) (v := (.slice none 0 0)) rfl (by kernel_rfl) ?_
  refine w_nil ?_
  refine then_normal ?_
  refine w_seq ?_
  refine w_lit ?_
  refine wl_pure (wants0 rfl) (d := 3) (v := v) rfl (by kernel_rfl) ?_
  refine wl_do (wants0 rfl) (fun K1 hK1 => ?_)
  refine d_appendNilL (T := 40) (e := 46) (size := 38) (bytes := 80) rfl H (by kernel_rfl) encSt_len encSt_one (ListAt.now H 0 rfl hS) rfl rfl (by omega) (by omega) ?_
  intro v2 w3 (H4 : Sat w [restC w (fun _ => False), rowC 46 38 v2 S.length (S.flatMap encSt)] w3)
  obtain ⟨a5, c6, rfl⟩ := ownsRow_shape (H4.at 1 rfl)
  refine hK1 _ _ ?_
  clear hK1 K1
  refine wl_pure (wants0 rfl) (d := 2) (v := (.slice a5 S.length c6)) rfl (by kernel_rfl) ?_
  refine w_nil ?_
  refine then_normal ?_
  refine w_ret ?_
  refine end1 rfl (res_tmp (v := (.slice a5 S.length c6)) rfl) ?_
  exact ⟨_, rfl, H4.at 1 rfl, H4.upd 0 rfl [] (fun _ h => h.elim), H4.fresh 0 rfl (fun _ h => h) 1 rfl rfl⟩

set_option maxRecDepth 100000 in
set_option maxHeartbeats 400000 in
theorem cutS_any (w : World) (sa : Option Addr) (sc : Nat) (S : List StampD) (hS : ListAt encSt 38 w (.slice sa S.length sc) S) (hx : S.length ≤ 9223372036854775807) (n : Nat) (hn : n ≤ 1000000) :
    Calls Try.prog 6 #[(.slice sa S.length sc), (.int .i64 ((n : Int)))] w fun e w' => ∃ u, e = .returned u ∧ (rowC 46 38 u (S.take n).length ((S.take n).flatMap encSt)).ok w' ∧ Upd [] w w' ∧ ∀ b, (rowC 46 38 u (S.take n).length ((S.take n).flatMap encSt)).fp b → w.heap.size ≤ b := by
  have hcap := ListAt.cap hS
  have H := Sat.start0 w
  refine calls_fr Try.func6 rfl 12 rfl (Nat.le_of_ble_eq_true rfl) ?_
  refine w_seq ?_
  refine w_lit ?_
  refine wl_pure (wants0 rfl) (d := 4) (v := (.slice none 0 0)) rfl (by kernel_rfl) ?_
  refine w_nil ?_
  refine then_normal ?_
  refine w_seq ?_
  refine w_lit ?_
  refine wl_pure (wants0 rfl) (d := 5) (v := (.slice sa S.length sc)) rfl (by kernel_rfl) ?_
  refine wl_pure (wants0 rfl) (d := 6) (v := (.slice sa S.length sc)) rfl (by kernel_rfl) ?_
  refine wl_pure (wants0 rfl) (d := 7) (v := (.int .i64 ((S.length : Int)))) rfl (by kernel_rfl) ?_
  refine wl_pure (wants0 rfl) (d := 8) (v := (.int .i64 ((n : Int)))) rfl (by kernel_rfl) ?_
  refine wl_pure (wants0 rfl) (d := 9) (v := (.int .i64 (((min S.length n : Nat) : Int)))) rfl (e_min (k := .i64) (a := (S.length : Int)) (b := (n : Int)) (z := ((min S.length n : Nat) : Int)) rfl rfl (by omega)) ?_
  refine wl_pure (wants0 rfl) (d := 10) (v := (.slice sa (min S.length n) sc)) rfl (e_sliceHi (E := 46) (q := (min S.length n)) (by kernel_rfl) (by kernel_rfl) rfl rfl (by omega) (by omega)) ?_
  refine wl_do (wants0 rfl) (fun K1 hK1 => ?_)
  refine d_call (d := 11) rfl (by kernel_rfl) (copyS_any w (.slice sa (min S.length n) sc) (S.take (min S.length n)) (ListAt.take (ListAt.now H 0 rfl hS) (by omega)) (by simp only [List.length_take]; omega)) ?_
  rintro _ w2 ⟨u3, rfl, k4, p5, q6⟩
  have H7 : Sat w [restC w (fun _ => False), rowC 46 38 u3 ((S.take (min S.length n)).length) ((S.take (min S.length n)).flatMap encSt)] w2 := H.addU p5 k4 q6
  obtain ⟨a8, c9, rfl⟩ := ownsRow_shape (H7.at 1 rfl)
  refine ⟨_, rfl, ?_⟩
  refine hK1 _ _ ?_
  clear hK1 K1
  refine wl_pure (wants0 rfl) (d := 4) (v := (.slice a8 ((S.take (min S.length n)).length) c9)) rfl (by kernel_rfl) ?_
  refine w_nil ?_
  refine then_normal ?_
  refine w_ret ?_
  refine end1 rfl (res_tmp (v := (.slice a8 ((S.take (min S.length n)).length) c9)) rfl) ?_
  have ht : S.take (min S.length n) = S.take n := by rw [List.take_eq_take_iff]; omega
  exact ⟨_, rfl, (by rw [← ht]; exact H7.at 1 rfl), H7.upd 0 rfl [] (fun _ h => h.elim), (by rw [← ht]; exact H7.fresh 0 rfl (fun _ h => h) 1 rfl rfl)⟩

end Go.Proofs.Ytenihpghfdcpkaa
namespace Go.Proofs.Ytenihpghfdcpkaa
open Go.RowKit
/-- pieces in one; they need not be apart -/
def bagC (L : List Ck) : Ck where
  fp b := ∃ A ∈ L, A.fp b
  ok w := ∀ A ∈ L, A.ok w
  stay {w w'} h hb A hA := A.stay (h A hA) fun b hf => hb b ⟨A, hA, hf⟩
  lt {w} h b hb := by obtain ⟨A, hA, hf⟩ := hb; exact A.lt (h A hA) b hf
section
variable {w0 w : World} {A : Ck} {L R G : List Ck}
theorem Sat.bag0 (H : Sat w0 G w) : Sat w0 (G ++ [bagC []]) w :=
  H.add (Ext.refl w) (fun _ _ => rfl) (fun A hA => by simp at hA) (fun b hb => by obtain ⟨A, hA, _⟩ := hb; simp at hA)
theorem Sat.bag (H : Sat w0 (bagC L :: A :: R) w) : Sat w0 (bagC (A :: L) :: R) w := by
  have h1 := List.pairwise_cons.1 H.dis
  have h2 := List.pairwise_cons.1 h1.2
  refine ⟨H.ext, fun C hC => ?_, List.pairwise_cons.2 ⟨fun C hC b hb hc => ?_, h2.2⟩⟩
  · rcases List.mem_cons.1 hC with rfl | hC
    · intro B hB
      rcases List.mem_cons.1 hB with rfl | hB
      · exact H.all _ (by simp)
      · exact (show (bagC L).ok w from H.all _ (by simp)) B hB
    · exact H.all _ (by simp [hC])
  · obtain ⟨B, hB, hf⟩ := hb
    rcases List.mem_cons.1 hB with rfl | hB
    · exact h2.1 C hC b hf hc
    · exact h1.1 C (by simp [hC]) b ⟨B, hB, hf⟩ hc
end
def stC (c : CeR) : Ck := rowC 46 38 (.slice c.sa c.S.length c.sc) c.S.length (c.S.flatMap encSt)
def ceC (p : PrR) : Ck := rowC 42 38 (.slice p.ca p.C.length p.cc) p.C.length (p.C.flatMap encCe)
def PIn (L : List Ck) (p : PrR) : Prop := ceC p ∈ L ∧ ∀ c ∈ p.C, stC c ∈ L
section
variable {L : List Ck} {A : Ck} {p : PrR} {x : CeR} {C : List CeR} {D : List PrR} {w : World} {a b : Int} {S : List StampD}
theorem PIn.ok (h : PIn L p) (hb : (bagC L).ok w) : PrOk w p :=
  ⟨ListAt.row encCe_len (by decide) (hb _ h.1), fun c hc => ListAt.row encSt_len (by decide) (hb _ (h.2 c hc))⟩
theorem PIn.more (h : PIn L p) : PIn (A :: L) p := ⟨List.mem_cons_of_mem _ h.1, fun c hc => List.mem_cons_of_mem _ (h.2 c hc)⟩
theorem ce_more (h : ∀ c ∈ C, CeSm c) (hx : CeSm x) : ∀ c ∈ C ++ [x], CeSm c := fun c hc => by
  rcases List.mem_append.1 hc with hc | hc
  · exact h c hc
  · rw [List.mem_singleton.1 hc]; exact hx
theorem in_more (h : ∀ c ∈ C, stC c ∈ L) : ∀ c ∈ C ++ [x], stC c ∈ stC x :: L := fun c hc => by
  rcases List.mem_append.1 hc with hc | hc
  · exact List.mem_cons_of_mem _ (h c hc)
  · rw [List.mem_singleton.1 hc]; exact List.mem_cons_self
theorem pin_more (h : ∀ p ∈ D, PIn L p) : ∀ p ∈ D, PIn (A :: L) p := fun p hp => (h p hp).more
theorem pin_new (h : ∀ p ∈ D, PIn L p) (hc : ∀ c ∈ p.C, stC c ∈ L) : ∀ q ∈ D ++ [p], PIn (ceC p :: L) q := fun q hq => by
  rcases List.mem_append.1 hq with hq | hq
  · exact (h q hq).more
  · rw [List.mem_singleton.1 hq]; exact ⟨List.mem_cons_self, fun c hcc => List.mem_cons_of_mem _ (hc c hcc)⟩
theorem psm_new (h : PSm D) (hc : ∀ c ∈ p.C, CeSm c) : PSm (D ++ [p]) := fun q hq => by
  rcases List.mem_append.1 hq with hq | hq
  · exact h q hq
  · rw [List.mem_singleton.1 hq]; exact hc
theorem len_new (h : ∀ p ∈ D, p.C.length ≤ 5) (hc : p.C.length ≤ 5) : ∀ q ∈ D ++ [p], q.C.length ≤ 5 := fun q hq => by
  rcases List.mem_append.1 hq with hq | hq
  · exact h q hq
  · rw [List.mem_singleton.1 hq]; exact hc
theorem cesm_new {y : CommitD} {sa : Option Addr} {sc : Nat} (hn : y.cl = withinV a 3) (hq : y.seq = 1 + withinV b 4) (hS : ∀ s ∈ S, StOk s) : CeSm ⟨y, sa, sc, S.take 5⟩ := by
  have q1 := within_lim a 3 (by omega)
  have q2 := within_lim b 4 (by omega)
  refine ⟨?_, ?_, sts_take hS 5⟩
  · unfold SmallN; simp only; omega
  · simp only [List.length_take]; omega
theorem lg_put {LM : List (NmD × Bool)} {LN : List NmD} (h : lgM LM = fun n => decide (n ∈ LN)) (n : NmD) : lgM (putM LM n true) = fun x => decide (x ∈ LN ++ [n]) := by
  funext x
  have h1 := congrFun h x
  unfold lgM at h1 ⊢
  by_cases e : x = n
  · subst e; rw [look_put_same]; simp
  · rw [look_put_other _ _ _ _ e, h1]
    by_cases hm : x ∈ LN <;> simp [hm, e]
theorem same_out {last tm : Int} {LM : List (NmD × Bool)} {LN : List NmD} {Z : List CeR} {O1 O2 : List EntD} (hlg : lgM LM = fun n => decide (n ∈ LN)) (hz : ∀ c ∈ Z, CeSm c) (h1 : O1.Perm ((runE last tm (lgM LM) Z).map (·.2))) (s1 : O1.Pairwise fun a b => ¬ ltEn b a) (h2 : O2.Perm ((runE last tm (fun n => decide (n ∈ LN)) Z).map (·.2))) (s2 : O2.Pairwise fun a b => ¬ ltEn b a) : O1 = O2 := by
  rw [← hlg] at h2
  have hok := runE_ok (last := last) (tm := tm) (lg := lgM LM) hz
  exact sorted_unique (h1.trans h2.symm) s1 s2 fun a ha b hb => hok.inj a (h1.subset ha) b (h1.subset hb)
theorem out_lim {last tm : Int} {lg : NmD → Bool} {Z : List CeR} {O : List EntD} (hz : ∀ c ∈ Z, CeSm c) (h : O.Perm ((runE last tm lg Z).map (·.2))) : O.length ≤ 12 := by
  rw [h.length_eq, List.length_map]; exact (runE_ok hz).len
end
end Go.Proofs.Ytenihpghfdcpkaa
namespace Go.Proofs.Ytenihpghfdcpkaa
open Go.RowKit

set_option maxRecDepth 100000 in
set_option maxHeartbeats 4000000 in
theorem entries12_walk (w : World) (ep tm last : Int) (vo vt : Value) (pa : Option Addr) (pc : Nat) (P : List PrR) (hP : ListAt encPr 6 w (.slice pa P.length pc) P) (hPi : ∀ x ∈ P, PrIn w x) (na : Option Addr) (nc : Nat) (N : List NmD) (hN : ListAt encNm 2 w (.slice na N.length nc) N) :
    Calls Try.prog 3 #[(.agg ⟨([(.int .i64 (ep)), (.int .u64 (tm)), (.slice pa P.length pc), (vo), (vt)] : List Value)⟩), (.int .u64 (last)), (.slice na N.length nc)] w fun e w' => e = .returned (.bool true) ∧ Upd [] w w' := by
  have hleP := SliceOf.le hP
  have hleN := SliceOf.le hN
  unfold maxLen at hleP hleN
  have hPo : ∀ i, i < P.length → PrOk w (P.getD i pr0) := fun i hi => (hPi _ (getD_memP hi)).1
  have hSt : ∀ i, i < P.length → ∀ c ∈ (P.getD i pr0).C, ∀ s ∈ c.S, StOk s := fun i hi => (hPi _ (getD_memP hi)).2
  have H := Sat.start0 w
  refine calls_fr Try.func3 rfl 105 rfl (Nat.le_of_ble_eq_true rfl) ?_
  refine w_seq ?_
  refine w_lit ?_
  refine wl_do (wants0 rfl) (fun K1 hK1 => ?_)
  refine d_box (vs := ([(.int .i64 (ep)), (.int .u64 (tm)), (.slice pa P.length pc), (vo), (vt)] : List Value)) rfl H rfl rfl ?_
  intro b2 w3 (H4 : Sat w [restC w (fun _ => False), cellC b2 27 ([(.int .i64 (ep)), (.int .u64 (tm)), (.slice pa P.length pc), (vo), (vt)] : List Value)] w3)
  refine hK1 _ _ ?_
  clear hK1 K1
  refine wl_pure (wants0 rfl) (d := 6) (v := (.bool false)) rfl (by kernel_rfl) ?_
  refine w_nil ?_
  refine then_normal ?_
  refine w_seq ?_
  refine w_lit ?_
  refine wl_pure (wants0 rfl) (d := 7) (v := (.slice none 0 0)) rfl (by kernel_rfl) ?_
  refine w_nil ?_
  refine then_normal ?_
  refine w_seq ?_
  refine w_seq ?_
  refine w_lit ?_
  refine wl_pure (wants0 rfl) (d := 8) (v := (.int .i64 (0))) rfl (by kernel_rfl) ?_
  refine w_nil ?_
  refine then_normal ?_
  refine w_block ?_
  have H5 := H4.addNil 33 6
  have H6 := H5.bag0
  refine wp_round [7, 8, 9, 10, 11, 12, 17, 18, 19, 20, 21, 22, 23, 24, 25, 26, 27, 28, 29, 30, 31, 32, 33, 34, 35, 36, 37, 38, 39, 40, 41, 42, 43, 44, 45, 46, 47, 48, 49, 50, 51, 52, 53, 54, 55, 56, 57, 58, 59, 60, 61, 62, 63, 64, 65, 66, 67, 68] (fun F_ W_ m_ => ∃ (i : Nat) (da : Option Addr) (dc : Nat) (D : List PrR) (L : List Ck), F_ 8 = (.int .i64 ((i : Int))) ∧ F_ 7 = (.slice da D.length dc) ∧ (i ≤ 4) ∧ (D.length ≤ i) ∧ (PSm D) ∧ (∀ p ∈ D, p.C.length ≤ 5) ∧ (∀ p ∈ D, PIn L p) ∧ Sat w [restC w (fun _ => False), cellC b2 27 ([(.int .i64 (ep)), (.int .u64 (tm)), (.slice pa P.length pc), (vo), (vt)] : List Value), rowC 33 6 (.slice da D.length dc) D.length (D.flatMap encPr), bagC L] W_ ∧ m_ = 4 - i) _ ⟨0, none, 0, [], [], (show ((.int .i64 (0)) : Value) = _ by first | rfl | go_num), (by first | rfl | go_num), (Nat.zero_le _), (Nat.le_refl _), (fun p hp => by simp at hp), (fun p hp => by simp at hp), (fun p hp => by simp at hp), H6, rfl⟩ ?_
  rintro g7 w8 _ ⟨i, da, dc, D, L, v10, v11, hi, hDl, hsm, hD5, hpn, H9, rfl⟩
  refine wp_know 8 _ v10 ?_
  refine wp_know 7 _ v11 ?_
  refine w_seq ?_
  refine w_seq ?_
  refine w_lit ?_
  refine wl_pure (wants0 rfl) (d := 17) (v := (.int .i64 ((i : Int)))) rfl (by kernel_rfl) ?_
  refine wl_pure (wants0 rfl) (d := 18) (v := (.pointer (some ⟨b2, 2, none⟩))) rfl (by kernel_rfl) ?_
  refine wl_pure (wants0 rfl) (d := 19) (v := (.slice pa P.length pc)) rfl (e_load1 rfl (by kernel_rfl) (H9.cell 1 rfl rfl)) ?_
  refine wl_pure (wants0 rfl) (d := 20) (v := (.int .i64 ((P.length : Int)))) rfl (by kernel_rfl) ?_
  refine wl_pure (wants0 rfl) (d := 21) (v := (.bool (decide ((i : Int) < (P.length : Int))))) rfl (by kernel_rfl) ?_
  refine wl_pure (wants0 rfl) (d := 22) (v := (.bool (decide ((i : Int) < (P.length : Int))))) rfl (by kernel_rfl) ?_
  refine (bsplit (decide ((i : Int) < (P.length : Int)))).elim (fun b13 => ?_) (fun b13 => ?_)
  · have g14 := of_decide_eq_true b13
    refine wl_know 22 (.bool true) (congrArg Value.bool b13) ?_
    have g15 := of_decide_eq_true b13
    refine wl_pure (wantsY 5 22 true rfl (by kernel_rfl) rfl (by kernel_rfl)) (d := 23) (v := (.int .i64 ((i : Int)))) rfl (by kernel_rfl) ?_
    refine wl_pure (wantsY 5 22 true rfl (by kernel_rfl) rfl (by kernel_rfl)) (d := 24) (v := (.bool (decide ((i : Int) < 4)))) rfl (by kernel_rfl) ?_
    refine wl_pure (wants0 rfl) (d := 25) (v := (.bool (decide ((i : Int) < 4)))) rfl (by kernel_rfl) ?_
    refine w_nil ?_
    refine then_normal ?_
    refine (bsplit (decide ((i : Int) < 4))).elim (fun b16 => ?_) (fun b16 => ?_)
    · have g17 := of_decide_eq_true b16
      refine wp_know 25 (.bool true) (congrArg Value.bool b16) ?_
      have g18 := of_decide_eq_true b16
      refine wp_ift rfl ?_
      refine w_skip ?_
      refine then_normal ?_
      refine w_seq ?_
      refine w_block ?_
      refine w_seq ?_
      refine w_lit ?_
      refine wl_pure (wants0 rfl) (d := 28) (v := (.pointer (some ⟨b2, 2, none⟩))) rfl (by kernel_rfl) ?_
      refine wl_pure (wants0 rfl) (d := 29) (v := (.slice pa P.length pc)) rfl (e_load1 rfl (by kernel_rfl) (H9.cell 1 rfl rfl)) ?_
      refine wl_pure (wants0 rfl) (d := 30) (v := (.int .i64 ((i : Int)))) rfl (by kernel_rfl) ?_
      obtain ⟨g19, o20, c21, e22, R23⟩ := SliceOf.atD hP pr0 (show i < P.length by omega)
      refine wl_pure (wants0 rfl) (d := 31) (v := (.pointer (some ⟨g19, o20 + ((i : Int)).toNat * 6, none⟩))) rfl (e_indexAddrW (E := 33) (by kernel_rfl) (by kernel_rfl) (Nat.le_of_ble_eq_true rfl) rfl e22 rfl (by omega) (by omega)) ?_
      refine wl_pure (wants0 rfl) (d := 32) (v := (.agg ⟨([(.int .i64 ((P.getD i pr0).r)), (.int .i64 ((P.getD i pr0).e)), (.int .u64 ((P.getD i pr0).f)), (.slice (P.getD i pr0).ca ((P.getD i pr0).C).length (P.getD i pr0).cc), (.int .i64 ((P.getD i pr0).sb)), (.int .i64 ((P.getD i pr0).sm))] : List Value)⟩)) rfl (e_loadRun (vs := ([(.int .i64 ((P.getD i pr0).r)), (.int .i64 ((P.getD i pr0).e)), (.int .u64 ((P.getD i pr0).f)), (.slice (P.getD i pr0).ca ((P.getD i pr0).C).length (P.getD i pr0).cc), (.int .i64 ((P.getD i pr0).sb)), (.int .i64 ((P.getD i pr0).sm))] : List Value)) rfl (by kernel_rfl) (by kernel_rfl) (Nat.le_of_ble_eq_true (by kernel_rfl)) (H9.runR 0 rfl (cells_run R23 0 (by kernel_rfl) (show o20 + ((i : Int)).toNat * 6 = o20 + i * 6 + 0 by omega)) (fun h => h))) ?_
      refine wl_do (wants0 rfl) (fun K24 hK24 => ?_)
      refine d_alloc (zs := ([(.int .i64 (0)), (.int .i64 (0)), (.int .u64 (0)), (.slice none 0 0), (.int .i64 (0)), (.int .i64 (0))] : List Value)) (z := (.agg ⟨([(.int .i64 (0)), (.int .i64 (0)), (.int .u64 (0)), (.slice none 0 0), (.int .i64 (0)), (.int .i64 (0))] : List Value)⟩)) rfl H9 (by kernel_rfl) (by kernel_rfl) ?_
      intro b25 w26 (H27 : Sat w [restC w (fun _ => False), cellC b2 27 ([(.int .i64 (ep)), (.int .u64 (tm)), (.slice pa P.length pc), (vo), (vt)] : List Value), rowC 33 6 (.slice da D.length dc) D.length (D.flatMap encPr), bagC L, cellC b25 33 ([(.int .i64 (0)), (.int .i64 (0)), (.int .u64 (0)), (.slice none 0 0), (.int .i64 (0)), (.int .i64 (0))] : List Value)] w26)
      refine hK24 _ _ ?_
      clear hK24 K24
      refine wl_do (wants0 rfl) (fun K28 hK28 => ?_)
      refine d_storeX (vs := ([(.int .i64 ((P.getD i pr0).r)), (.int .i64 ((P.getD i pr0).e)), (.int .u64 ((P.getD i pr0).f)), (.slice (P.getD i pr0).ca ((P.getD i pr0).C).length (P.getD i pr0).cc), (.int .i64 ((P.getD i pr0).sb)), (.int .i64 ((P.getD i pr0).sm))] : List Value)) (cs' := ([(.int .i64 ((P.getD i pr0).r)), (.int .i64 ((P.getD i pr0).e)), (.int .u64 ((P.getD i pr0).f)), (.slice (P.getD i pr0).ca ((P.getD i pr0).C).length (P.getD i pr0).cc), (.int .i64 ((P.getD i pr0).sb)), (.int .i64 ((P.getD i pr0).sm))] : List Value)) rfl H27 4 rfl rfl rfl rfl (by kernel_rfl) (Nat.le_of_ble_eq_true (by kernel_rfl)) (Nat.le_of_ble_eq_true (by kernel_rfl)) (by kernel_rfl) (by kernel_rfl) ?_
      intro w29 (H30 : Sat w [restC w (fun _ => False), cellC b2 27 ([(.int .i64 (ep)), (.int .u64 (tm)), (.slice pa P.length pc), (vo), (vt)] : List Value), rowC 33 6 (.slice da D.length dc) D.length (D.flatMap encPr), bagC L, cellC b25 33 ([(.int .i64 ((P.getD i pr0).r)), (.int .i64 ((P.getD i pr0).e)), (.int .u64 ((P.getD i pr0).f)), (.slice (P.getD i pr0).ca ((P.getD i pr0).C).length (P.getD i pr0).cc), (.int .i64 ((P.getD i pr0).sb)), (.int .i64 ((P.getD i pr0).sm))] : List Value)] w29)
      refine hK28 _ _ ?_
      clear hK28 K28
      refine w_nil ?_
      refine then_normal ?_
      refine w_seq ?_
      refine w_lit ?_
      refine wl_pure (wants0 rfl) (d := 10) (v := (.slice none 0 0)) rfl (by kernel_rfl) ?_
      refine w_nil ?_
      refine then_normal ?_
      refine w_seq ?_
      refine w_seq ?_
      refine w_lit ?_
      refine wl_pure (wants0 rfl) (d := 11) (v := (.int .i64 (0))) rfl (by kernel_rfl) ?_
      refine w_nil ?_
      refine then_normal ?_
      refine w_block ?_
      have H32 := H30.addNil 42 38
      refine wp_round [10, 11, 12, 33, 34, 35, 36, 37, 38, 39, 40, 41, 42, 43, 44, 45, 46, 47, 48, 49, 50, 51, 52, 53, 54, 55, 56, 57, 58, 59, 60, 61, 62] (fun F_ W_ m_ => ∃ (k : Nat) (ca : Option Addr) (cc : Nat) (C : List CeR) (L2 : List Ck), F_ 11 = (.int .i64 ((k : Int))) ∧ F_ 10 = (.slice ca C.length cc) ∧ (k ≤ 5) ∧ (C.length ≤ k) ∧ (∀ c ∈ C, CeSm c) ∧ (∀ c ∈ C, stC c ∈ L2) ∧ (∀ p ∈ D, PIn L2 p) ∧ Sat w [restC w (fun _ => False), cellC b2 27 ([(.int .i64 (ep)), (.int .u64 (tm)), (.slice pa P.length pc), (vo), (vt)] : List Value), rowC 33 6 (.slice da D.length dc) D.length (D.flatMap encPr), bagC L2, cellC b25 33 ([(.int .i64 ((P.getD i pr0).r)), (.int .i64 ((P.getD i pr0).e)), (.int .u64 ((P.getD i pr0).f)), (.slice (P.getD i pr0).ca ((P.getD i pr0).C).length (P.getD i pr0).cc), (.int .i64 ((P.getD i pr0).sb)), (.int .i64 ((P.getD i pr0).sm))] : List Value), rowC 42 38 (.slice ca C.length cc) C.length (C.flatMap encCe)] W_ ∧ m_ = 5 - k) _ ⟨0, none, 0, [], L, (show ((.int .i64 (0)) : Value) = _ by first | rfl | go_num), (by first | rfl | go_num), (Nat.zero_le _), (Nat.le_refl _), (fun p hp => by simp at hp), (fun p hp => by simp at hp), hpn, H32, rfl⟩ ?_
      rintro g33 w34 _ ⟨k, ca, cc, C, L2, v36, v37, hk, hCl, hC, hin, hpn2, H35, rfl⟩
      refine wp_know 11 _ v36 ?_
      refine wp_know 10 _ v37 ?_
      refine w_seq ?_
      refine w_seq ?_
      refine w_lit ?_
      refine wl_pure (wants0 rfl) (d := 33) (v := (.int .i64 ((k : Int)))) rfl (by kernel_rfl) ?_
      refine wl_pure (wants0 rfl) (d := 34) (v := (.pointer (some ⟨b25, 3, none⟩))) rfl (by kernel_rfl) ?_
      refine wl_pure (wants0 rfl) (d := 35) (v := (.slice (P.getD i pr0).ca ((P.getD i pr0).C).length (P.getD i pr0).cc)) rfl (e_load1 rfl (by kernel_rfl) (H35.cell 4 rfl rfl)) ?_
      refine wl_pure (wants0 rfl) (d := 36) (v := (.int .i64 ((((P.getD i pr0).C).length : Int)))) rfl (by kernel_rfl) ?_
      refine wl_pure (wants0 rfl) (d := 37) (v := (.bool (decide ((k : Int) < (((P.getD i pr0).C).length : Int))))) rfl (by kernel_rfl) ?_
      refine wl_pure (wants0 rfl) (d := 38) (v := (.bool (decide ((k : Int) < (((P.getD i pr0).C).length : Int))))) rfl (by kernel_rfl) ?_
      refine (bsplit (decide ((k : Int) < (((P.getD i pr0).C).length : Int)))).elim (fun b39 => ?_) (fun b39 => ?_)
      · have g40 := of_decide_eq_true b39
        refine wl_know 38 (.bool true) (congrArg Value.bool b39) ?_
        have g41 := of_decide_eq_true b39
        refine wl_pure (wantsY 5 38 true rfl (by kernel_rfl) rfl (by kernel_rfl)) (d := 39) (v := (.int .i64 ((k : Int)))) rfl (by kernel_rfl) ?_
        refine wl_pure (wantsY 5 38 true rfl (by kernel_rfl) rfl (by kernel_rfl)) (d := 40) (v := (.bool (decide ((k : Int) < 5)))) rfl (by kernel_rfl) ?_
        refine wl_pure (wants0 rfl) (d := 41) (v := (.bool (decide ((k : Int) < 5)))) rfl (by kernel_rfl) ?_
        refine w_nil ?_
        refine then_normal ?_
        refine (bsplit (decide ((k : Int) < 5))).elim (fun b42 => ?_) (fun b42 => ?_)
        · have g43 := of_decide_eq_true b42
          refine wp_know 41 (.bool true) (congrArg Value.bool b42) ?_
          have g44 := of_decide_eq_true b42
          refine wp_ift rfl ?_
          refine w_skip ?_
          refine then_normal ?_
          refine w_seq ?_
          refine w_block ?_
          refine w_seq ?_
          refine w_lit ?_
          refine wl_pure (wants0 rfl) (d := 44) (v := (.pointer (some ⟨b25, 3, none⟩))) rfl (by kernel_rfl) ?_
          refine wl_pure (wants0 rfl) (d := 45) (v := (.slice (P.getD i pr0).ca ((P.getD i pr0).C).length (P.getD i pr0).cc)) rfl (e_load1 rfl (by kernel_rfl) (H35.cell 4 rfl rfl)) ?_
          refine wl_pure (wants0 rfl) (d := 46) (v := (.int .i64 ((k : Int)))) rfl (by kernel_rfl) ?_
          obtain ⟨g45, o46, c47, e48, R49⟩ := SliceOf.atD (hPo i (by omega)).1 ce0 (show k < ((P.getD i pr0).C).length by omega)
          refine wl_pure (wants0 rfl) (d := 47) (v := (.pointer (some ⟨g45, o46 + ((k : Int)).toNat * 38, none⟩))) rfl (e_indexAddrW (E := 42) (by kernel_rfl) (by kernel_rfl) (Nat.le_of_ble_eq_true rfl) rfl e48 rfl (by omega) (by omega)) ?_
          refine wl_pure (wants0 rfl) (d := 48) (v := (.agg ⟨(([(.int .i64 ((((P.getD i pr0).C).getD k ce0).x.cl)), (.int .i64 ((((P.getD i pr0).C).getD k ce0).x.seq))] : List Value) ++ hc (((P.getD i pr0).C).getD k ce0).x.h ++ ([(.int .i64 ((((P.getD i pr0).C).getD k ce0).x.len)), (.int .i64 ((((P.getD i pr0).C).getD k ce0).x.sb)), (.int .i64 ((((P.getD i pr0).C).getD k ce0).x.sm)), (.slice (((P.getD i pr0).C).getD k ce0).sa ((((P.getD i pr0).C).getD k ce0).S).length (((P.getD i pr0).C).getD k ce0).sc)] : List Value))⟩)) rfl (e_loadRun (vs := (([(.int .i64 ((((P.getD i pr0).C).getD k ce0).x.cl)), (.int .i64 ((((P.getD i pr0).C).getD k ce0).x.seq))] : List Value) ++ hc (((P.getD i pr0).C).getD k ce0).x.h ++ ([(.int .i64 ((((P.getD i pr0).C).getD k ce0).x.len)), (.int .i64 ((((P.getD i pr0).C).getD k ce0).x.sb)), (.int .i64 ((((P.getD i pr0).C).getD k ce0).x.sm)), (.slice (((P.getD i pr0).C).getD k ce0).sa ((((P.getD i pr0).C).getD k ce0).S).length (((P.getD i pr0).C).getD k ce0).sc)] : List Value))) rfl (by kernel_rfl) (by kernel_rfl) (Nat.le_of_ble_eq_true (by kernel_rfl)) (H35.runR 0 rfl (cells_run R49 0 (by kernel_rfl) (show o46 + ((k : Int)).toNat * 38 = o46 + k * 38 + 0 by omega)) (fun h => h))) ?_
          refine wl_do (wants0 rfl) (fun K50 hK50 => ?_)
          refine d_alloc (zs := (([(.int .i64 (0)), (.int .i64 (0))] : List Value) ++ hc hash0 ++ ([(.int .i64 (0)), (.int .i64 (0)), (.int .i64 (0)), (.slice none 0 0)] : List Value))) (z := (.agg ⟨(([(.int .i64 (0)), (.int .i64 (0))] : List Value) ++ hc hash0 ++ ([(.int .i64 (0)), (.int .i64 (0)), (.int .i64 (0)), (.slice none 0 0)] : List Value))⟩)) rfl H35 (by kernel_rfl) (by kernel_rfl) ?_
          intro b51 w52 (H53 : Sat w [restC w (fun _ => False), cellC b2 27 ([(.int .i64 (ep)), (.int .u64 (tm)), (.slice pa P.length pc), (vo), (vt)] : List Value), rowC 33 6 (.slice da D.length dc) D.length (D.flatMap encPr), bagC L2, cellC b25 33 ([(.int .i64 ((P.getD i pr0).r)), (.int .i64 ((P.getD i pr0).e)), (.int .u64 ((P.getD i pr0).f)), (.slice (P.getD i pr0).ca ((P.getD i pr0).C).length (P.getD i pr0).cc), (.int .i64 ((P.getD i pr0).sb)), (.int .i64 ((P.getD i pr0).sm))] : List Value), rowC 42 38 (.slice ca C.length cc) C.length (C.flatMap encCe), cellC b51 42 (([(.int .i64 (0)), (.int .i64 (0))] : List Value) ++ hc hash0 ++ ([(.int .i64 (0)), (.int .i64 (0)), (.int .i64 (0)), (.slice none 0 0)] : List Value))] w52)
          refine hK50 _ _ ?_
          clear hK50 K50
          refine wl_do (wants0 rfl) (fun K54 hK54 => ?_)
          refine d_storeX (vs := (([(.int .i64 ((((P.getD i pr0).C).getD k ce0).x.cl)), (.int .i64 ((((P.getD i pr0).C).getD k ce0).x.seq))] : List Value) ++ hc (((P.getD i pr0).C).getD k ce0).x.h ++ ([(.int .i64 ((((P.getD i pr0).C).getD k ce0).x.len)), (.int .i64 ((((P.getD i pr0).C).getD k ce0).x.sb)), (.int .i64 ((((P.getD i pr0).C).getD k ce0).x.sm)), (.slice (((P.getD i pr0).C).getD k ce0).sa ((((P.getD i pr0).C).getD k ce0).S).length (((P.getD i pr0).C).getD k ce0).sc)] : List Value))) (cs' := (([(.int .i64 ((((P.getD i pr0).C).getD k ce0).x.cl)), (.int .i64 ((((P.getD i pr0).C).getD k ce0).x.seq))] : List Value) ++ hc (((P.getD i pr0).C).getD k ce0).x.h ++ ([(.int .i64 ((((P.getD i pr0).C).getD k ce0).x.len)), (.int .i64 ((((P.getD i pr0).C).getD k ce0).x.sb)), (.int .i64 ((((P.getD i pr0).C).getD k ce0).x.sm)), (.slice (((P.getD i pr0).C).getD k ce0).sa ((((P.getD i pr0).C).getD k ce0).S).length (((P.getD i pr0).C).getD k ce0).sc)] : List Value))) rfl H53 6 rfl rfl rfl rfl (by kernel_rfl) (Nat.le_of_ble_eq_true (by kernel_rfl)) (Nat.le_of_ble_eq_true (by kernel_rfl)) (by kernel_rfl) (by kernel_rfl) ?_
          intro w55 (H56 : Sat w [restC w (fun _ => False), cellC b2 27 ([(.int .i64 (ep)), (.int .u64 (tm)), (.slice pa P.length pc), (vo), (vt)] : List Value), rowC 33 6 (.slice da D.length dc) D.length (D.flatMap encPr), bagC L2, cellC b25 33 ([(.int .i64 ((P.getD i pr0).r)), (.int .i64 ((P.getD i pr0).e)), (.int .u64 ((P.getD i pr0).f)), (.slice (P.getD i pr0).ca ((P.getD i pr0).C).length (P.getD i pr0).cc), (.int .i64 ((P.getD i pr0).sb)), (.int .i64 ((P.getD i pr0).sm))] : List Value), rowC 42 38 (.slice ca C.length cc) C.length (C.flatMap encCe), cellC b51 42 (([(.int .i64 ((((P.getD i pr0).C).getD k ce0).x.cl)), (.int .i64 ((((P.getD i pr0).C).getD k ce0).x.seq))] : List Value) ++ hc (((P.getD i pr0).C).getD k ce0).x.h ++ ([(.int .i64 ((((P.getD i pr0).C).getD k ce0).x.len)), (.int .i64 ((((P.getD i pr0).C).getD k ce0).x.sb)), (.int .i64 ((((P.getD i pr0).C).getD k ce0).x.sm)), (.slice (((P.getD i pr0).C).getD k ce0).sa ((((P.getD i pr0).C).getD k ce0).S).length (((P.getD i pr0).C).getD k ce0).sc)] : List Value))] w55)
          refine hK54 _ _ ?_
          clear hK54 K54
          refine w_nil ?_
          refine then_normal ?_
          refine w_seq ?_
          refine w_lit ?_
          refine wl_pure (wants0 rfl) (d := 49) (v := (.pointer (some ⟨b51, 0, none⟩))) rfl (by kernel_rfl) ?_
          refine wl_pure (wants0 rfl) (d := 50) (v := (.pointer (some ⟨b51, 0, none⟩))) rfl (by kernel_rfl) ?_
          refine wl_pure (wants0 rfl) (d := 51) (v := (.agg ⟨([(.int .i64 ((((P.getD i pr0).C).getD k ce0).x.cl)), (.int .i64 ((((P.getD i pr0).C).getD k ce0).x.seq))] : List Value)⟩)) rfl (e_loadN (vs := ([(.int .i64 ((((P.getD i pr0).C).getD k ce0).x.cl)), (.int .i64 ((((P.getD i pr0).C).getD k ce0).x.seq))] : List Value)) rfl (by kernel_rfl) (by kernel_rfl) (by exact Nat.le_of_ble_eq_true (by kernel_rfl)) (H56.at 6 rfl) (by kernel_rfl)) ?_
          refine wl_do (wants0 rfl) (fun K58 hK58 => ?_)
          refine d_call (d := 52) rfl (by kernel_rfl) (small_any w55 ((((P.getD i pr0).C).getD k ce0).x.cl) ((((P.getD i pr0).C).getD k ce0).x.seq)) ?_
          rintro _ w59 ⟨rfl, u61⟩
          have H60 := H56.keepU u61
          refine ⟨_, rfl, ?_⟩
          refine hK58 _ _ ?_
          clear hK58 K58
          refine wl_pure (wants0 rfl) (d := 53) (v := (.pointer (some ⟨b51, 0, none⟩))) rfl (by kernel_rfl) ?_
          refine wl_pure (wants0 rfl) (d := 54) (v := (.pointer (some ⟨b51, 0, none⟩))) rfl (by kernel_rfl) ?_
          refine wl_do (wants0 rfl) (fun K62 hK62 => ?_)
          refine d_storeX (vs := ([(.int .i64 (withinV ((((P.getD i pr0).C).getD k ce0).x.cl) 3)), (.int .i64 (1 + withinV ((((P.getD i pr0).C).getD k ce0).x.seq) 4))] : List Value)) (cs' := (([(.int .i64 (withinV ((((P.getD i pr0).C).getD k ce0).x.cl) 3)), (.int .i64 (1 + withinV ((((P.getD i pr0).C).getD k ce0).x.seq) 4))] : List Value) ++ hc (((P.getD i pr0).C).getD k ce0).x.h ++ ([(.int .i64 ((((P.getD i pr0).C).getD k ce0).x.len)), (.int .i64 ((((P.getD i pr0).C).getD k ce0).x.sb)), (.int .i64 ((((P.getD i pr0).C).getD k ce0).x.sm)), (.slice (((P.getD i pr0).C).getD k ce0).sa ((((P.getD i pr0).C).getD k ce0).S).length (((P.getD i pr0).C).getD k ce0).sc)] : List Value))) rfl H60 6 rfl rfl rfl rfl (by kernel_rfl) (Nat.le_of_ble_eq_true (by kernel_rfl)) (Nat.le_of_ble_eq_true (by kernel_rfl)) (by kernel_rfl) (by kernel_rfl) ?_
          intro w63 (H64 : Sat w [restC w (fun _ => False), cellC b2 27 ([(.int .i64 (ep)), (.int .u64 (tm)), (.slice pa P.length pc), (vo), (vt)] : List Value), rowC 33 6 (.slice da D.length dc) D.length (D.flatMap encPr), bagC L2, cellC b25 33 ([(.int .i64 ((P.getD i pr0).r)), (.int .i64 ((P.getD i pr0).e)), (.int .u64 ((P.getD i pr0).f)), (.slice (P.getD i pr0).ca ((P.getD i pr0).C).length (P.getD i pr0).cc), (.int .i64 ((P.getD i pr0).sb)), (.int .i64 ((P.getD i pr0).sm))] : List Value), rowC 42 38 (.slice ca C.length cc) C.length (C.flatMap encCe), cellC b51 42 (([(.int .i64 (withinV ((((P.getD i pr0).C).getD k ce0).x.cl) 3)), (.int .i64 (1 + withinV ((((P.getD i pr0).C).getD k ce0).x.seq) 4))] : List Value) ++ hc (((P.getD i pr0).C).getD k ce0).x.h ++ ([(.int .i64 ((((P.getD i pr0).C).getD k ce0).x.len)), (.int .i64 ((((P.getD i pr0).C).getD k ce0).x.sb)), (.int .i64 ((((P.getD i pr0).C).getD k ce0).x.sm)), (.slice (((P.getD i pr0).C).getD k ce0).sa ((((P.getD i pr0).C).getD k ce0).S).length (((P.getD i pr0).C).getD k ce0).sc)] : List Value))] w63)
          refine hK62 _ _ ?_
          clear hK62 K62
          refine w_nil ?_
          refine then_normal ?_
          refine w_seq ?_
          have hleS := SliceOf.le (show ListAt encSt 38 w (.slice ((P.getD i pr0).C.getD k ce0).sa ((P.getD i pr0).C.getD k ce0).S.length ((P.getD i pr0).C.getD k ce0).sc) ((P.getD i pr0).C.getD k ce0).S from ceOk_at hPo (i := i) (k := k) (by omega) (by omega))
          unfold maxLen at hleS
          refine w_lit ?_
          refine wl_pure (wants0 rfl) (d := 55) (v := (.pointer (some ⟨b51, 37, none⟩))) rfl (by kernel_rfl) ?_
          refine wl_pure (wants0 rfl) (d := 56) (v := (.slice (((P.getD i pr0).C).getD k ce0).sa ((((P.getD i pr0).C).getD k ce0).S).length (((P.getD i pr0).C).getD k ce0).sc)) rfl (e_load1 rfl (by kernel_rfl) (H64.cell 6 rfl (by kernel_rfl))) ?_
          refine wl_do (wants0 rfl) (fun K66 hK66 => ?_)
          refine d_call (d := 57) rfl (by kernel_rfl) (cutS_any w63 (((P.getD i pr0).C).getD k ce0).sa (((P.getD i pr0).C).getD k ce0).sc ((((P.getD i pr0).C).getD k ce0).S) (ListAt.now H64 0 rfl (ceOk_at hPo (i := i) (k := k) (by omega) (by omega))) (by omega) 5 (by decide)) ?_
          rintro _ w67 ⟨u68, rfl, k69, p70, q71⟩
          have H72 : Sat w [restC w (fun _ => False), cellC b2 27 ([(.int .i64 (ep)), (.int .u64 (tm)), (.slice pa P.length pc), (vo), (vt)] : List Value), rowC 33 6 (.slice da D.length dc) D.length (D.flatMap encPr), bagC L2, cellC b25 33 ([(.int .i64 ((P.getD i pr0).r)), (.int .i64 ((P.getD i pr0).e)), (.int .u64 ((P.getD i pr0).f)), (.slice (P.getD i pr0).ca ((P.getD i pr0).C).length (P.getD i pr0).cc), (.int .i64 ((P.getD i pr0).sb)), (.int .i64 ((P.getD i pr0).sm))] : List Value), rowC 42 38 (.slice ca C.length cc) C.length (C.flatMap encCe), cellC b51 42 (([(.int .i64 (withinV ((((P.getD i pr0).C).getD k ce0).x.cl) 3)), (.int .i64 (1 + withinV ((((P.getD i pr0).C).getD k ce0).x.seq) 4))] : List Value) ++ hc (((P.getD i pr0).C).getD k ce0).x.h ++ ([(.int .i64 ((((P.getD i pr0).C).getD k ce0).x.len)), (.int .i64 ((((P.getD i pr0).C).getD k ce0).x.sb)), (.int .i64 ((((P.getD i pr0).C).getD k ce0).x.sm)), (.slice (((P.getD i pr0).C).getD k ce0).sa ((((P.getD i pr0).C).getD k ce0).S).length (((P.getD i pr0).C).getD k ce0).sc)] : List Value)), rowC 46 38 u68 ((((((P.getD i pr0).C).getD k ce0).S).take 5).length) ((((((P.getD i pr0).C).getD k ce0).S).take 5).flatMap encSt)] w67 := H64.addU p70 k69 q71
          obtain ⟨a73, c74, rfl⟩ := ownsRow_shape (H72.at 7 rfl)
          refine ⟨_, rfl, ?_⟩
          refine hK66 _ _ ?_
          clear hK66 K66
          refine wl_pure (wants0 rfl) (d := 58) (v := (.pointer (some ⟨b51, 37, none⟩))) rfl (by kernel_rfl) ?_
          refine wl_do (wants0 rfl) (fun K75 hK75 => ?_)
          refine d_storeX (vs := ([(.slice a73 ((((((P.getD i pr0).C).getD k ce0).S).take 5).length) c74)] : List Value)) (cs' := (([(.int .i64 (withinV ((((P.getD i pr0).C).getD k ce0).x.cl) 3)), (.int .i64 (1 + withinV ((((P.getD i pr0).C).getD k ce0).x.seq) 4))] : List Value) ++ hc (((P.getD i pr0).C).getD k ce0).x.h ++ ([(.int .i64 ((((P.getD i pr0).C).getD k ce0).x.len)), (.int .i64 ((((P.getD i pr0).C).getD k ce0).x.sb)), (.int .i64 ((((P.getD i pr0).C).getD k ce0).x.sm)), (.slice a73 ((((((P.getD i pr0).C).getD k ce0).S).take 5).length) c74)] : List Value))) rfl H72 6 rfl rfl rfl rfl (by kernel_rfl) (Nat.le_of_ble_eq_true (by kernel_rfl)) (Nat.le_of_ble_eq_true (by kernel_rfl)) (by kernel_rfl) (by kernel_rfl) ?_
          intro w76 (H77 : Sat w [restC w (fun _ => False), cellC b2 27 ([(.int .i64 (ep)), (.int .u64 (tm)), (.slice pa P.length pc), (vo), (vt)] : List Value), rowC 33 6 (.slice da D.length dc) D.length (D.flatMap encPr), bagC L2, cellC b25 33 ([(.int .i64 ((P.getD i pr0).r)), (.int .i64 ((P.getD i pr0).e)), (.int .u64 ((P.getD i pr0).f)), (.slice (P.getD i pr0).ca ((P.getD i pr0).C).length (P.getD i pr0).cc), (.int .i64 ((P.getD i pr0).sb)), (.int .i64 ((P.getD i pr0).sm))] : List Value), rowC 42 38 (.slice ca C.length cc) C.length (C.flatMap encCe), cellC b51 42 (([(.int .i64 (withinV ((((P.getD i pr0).C).getD k ce0).x.cl) 3)), (.int .i64 (1 + withinV ((((P.getD i pr0).C).getD k ce0).x.seq) 4))] : List Value) ++ hc (((P.getD i pr0).C).getD k ce0).x.h ++ ([(.int .i64 ((((P.getD i pr0).C).getD k ce0).x.len)), (.int .i64 ((((P.getD i pr0).C).getD k ce0).x.sb)), (.int .i64 ((((P.getD i pr0).C).getD k ce0).x.sm)), (.slice a73 ((((((P.getD i pr0).C).getD k ce0).S).take 5).length) c74)] : List Value)), rowC 46 38 (.slice a73 ((((((P.getD i pr0).C).getD k ce0).S).take 5).length) c74) ((((((P.getD i pr0).C).getD k ce0).S).take 5).length) ((((((P.getD i pr0).C).getD k ce0).S).take 5).flatMap encSt)] w76)
          refine hK75 _ _ ?_
          clear hK75 K75
          refine w_nil ?_
          refine then_normal ?_
          refine w_lit ?_
          refine wl_pure (wants0 rfl) (d := 59) (v := (.slice ca C.length cc)) rfl (by kernel_rfl) ?_
          refine wl_pure (wants0 rfl) (d := 60) (v := (.agg ⟨(([(.int .i64 (withinV ((((P.getD i pr0).C).getD k ce0).x.cl) 3)), (.int .i64 (1 + withinV ((((P.getD i pr0).C).getD k ce0).x.seq) 4))] : List Value) ++ hc (((P.getD i pr0).C).getD k ce0).x.h ++ ([(.int .i64 ((((P.getD i pr0).C).getD k ce0).x.len)), (.int .i64 ((((P.getD i pr0).C).getD k ce0).x.sb)), (.int .i64 ((((P.getD i pr0).C).getD k ce0).x.sm)), (.slice a73 ((((((P.getD i pr0).C).getD k ce0).S).take 5).length) c74)] : List Value))⟩)) rfl (e_loadN (vs := (([(.int .i64 (withinV ((((P.getD i pr0).C).getD k ce0).x.cl) 3)), (.int .i64 (1 + withinV ((((P.getD i pr0).C).getD k ce0).x.seq) 4))] : List Value) ++ hc (((P.getD i pr0).C).getD k ce0).x.h ++ ([(.int .i64 ((((P.getD i pr0).C).getD k ce0).x.len)), (.int .i64 ((((P.getD i pr0).C).getD k ce0).x.sb)), (.int .i64 ((((P.getD i pr0).C).getD k ce0).x.sm)), (.slice a73 ((((((P.getD i pr0).C).getD k ce0).S).take 5).length) c74)] : List Value))) rfl (by kernel_rfl) (by kernel_rfl) (by exact Nat.le_of_ble_eq_true (by kernel_rfl)) (H77.at 6 rfl) (by kernel_rfl)) ?_
          refine wl_do (wants0 rfl) (fun K79 hK79 => ?_)
          refine d_buildSlice (e := 42) (size := 38) (bytes := 96) (z := (.agg ⟨(([(.int .i64 (0)), (.int .i64 (0))] : List Value) ++ hc hash0 ++ ([(.int .i64 (0)), (.int .i64 (0)), (.int .i64 (0)), (.slice none 0 0)] : List Value))⟩)) (pvs := [(0, (.agg ⟨(([(.int .i64 (withinV ((((P.getD i pr0).C).getD k ce0).x.cl) 3)), (.int .i64 (1 + withinV ((((P.getD i pr0).C).getD k ce0).x.seq) 4))] : List Value) ++ hc (((P.getD i pr0).C).getD k ce0).x.h ++ ([(.int .i64 ((((P.getD i pr0).C).getD k ce0).x.len)), (.int .i64 ((((P.getD i pr0).C).getD k ce0).x.sb)), (.int .i64 ((((P.getD i pr0).C).getD k ce0).x.sm)), (.slice a73 ((((((P.getD i pr0).C).getD k ce0).S).take 5).length) c74)] : List Value))⟩))]) (vs := (([(.int .i64 (withinV ((((P.getD i pr0).C).getD k ce0).x.cl) 3)), (.int .i64 (1 + withinV ((((P.getD i pr0).C).getD k ce0).x.seq) 4))] : List Value) ++ hc (((P.getD i pr0).C).getD k ce0).x.h ++ ([(.int .i64 ((((P.getD i pr0).C).getD k ce0).x.len)), (.int .i64 ((((P.getD i pr0).C).getD k ce0).x.sb)), (.int .i64 ((((P.getD i pr0).C).getD k ce0).x.sm)), (.slice a73 ((((((P.getD i pr0).C).getD k ce0).S).take 5).length) c74)] : List Value))) rfl H77 (by kernel_rfl) (by kernel_rfl) (by kernel_rfl) (by kernel_rfl) (by kernel_rfl) rfl rfl ?_
          intro b80 w81 (H82 : Sat w [restC w (fun _ => False), cellC b2 27 ([(.int .i64 (ep)), (.int .u64 (tm)), (.slice pa P.length pc), (vo), (vt)] : List Value), rowC 33 6 (.slice da D.length dc) D.length (D.flatMap encPr), bagC L2, cellC b25 33 ([(.int .i64 ((P.getD i pr0).r)), (.int .i64 ((P.getD i pr0).e)), (.int .u64 ((P.getD i pr0).f)), (.slice (P.getD i pr0).ca ((P.getD i pr0).C).length (P.getD i pr0).cc), (.int .i64 ((P.getD i pr0).sb)), (.int .i64 ((P.getD i pr0).sm))] : List Value), rowC 42 38 (.slice ca C.length cc) C.length (C.flatMap encCe), cellC b51 42 (([(.int .i64 (withinV ((((P.getD i pr0).C).getD k ce0).x.cl) 3)), (.int .i64 (1 + withinV ((((P.getD i pr0).C).getD k ce0).x.seq) 4))] : List Value) ++ hc (((P.getD i pr0).C).getD k ce0).x.h ++ ([(.int .i64 ((((P.getD i pr0).C).getD k ce0).x.len)), (.int .i64 ((((P.getD i pr0).C).getD k ce0).x.sb)), (.int .i64 ((((P.getD i pr0).C).getD k ce0).x.sm)), (.slice a73 ((((((P.getD i pr0).C).getD k ce0).S).take 5).length) c74)] : List Value)), rowC 46 38 (.slice a73 ((((((P.getD i pr0).C).getD k ce0).S).take 5).length) c74) ((((((P.getD i pr0).C).getD k ce0).S).take 5).length) ((((((P.getD i pr0).C).getD k ce0).S).take 5).flatMap encSt), rowC 42 38 (.slice (some ⟨b80, 0, none⟩) 1 1) 1 (([(.int .i64 (withinV ((((P.getD i pr0).C).getD k ce0).x.cl) 3)), (.int .i64 (1 + withinV ((((P.getD i pr0).C).getD k ce0).x.seq) 4))] : List Value) ++ hc (((P.getD i pr0).C).getD k ce0).x.h ++ ([(.int .i64 ((((P.getD i pr0).C).getD k ce0).x.len)), (.int .i64 ((((P.getD i pr0).C).getD k ce0).x.sb)), (.int .i64 ((((P.getD i pr0).C).getD k ce0).x.sm)), (.slice a73 ((((((P.getD i pr0).C).getD k ce0).S).take 5).length) c74)] : List Value))] w81)
          have H83 : Sat w [restC w (fun _ => False), cellC b2 27 ([(.int .i64 (ep)), (.int .u64 (tm)), (.slice pa P.length pc), (vo), (vt)] : List Value), rowC 33 6 (.slice da D.length dc) D.length (D.flatMap encPr), bagC L2, cellC b25 33 ([(.int .i64 ((P.getD i pr0).r)), (.int .i64 ((P.getD i pr0).e)), (.int .u64 ((P.getD i pr0).f)), (.slice (P.getD i pr0).ca ((P.getD i pr0).C).length (P.getD i pr0).cc), (.int .i64 ((P.getD i pr0).sb)), (.int .i64 ((P.getD i pr0).sm))] : List Value), rowC 42 38 (.slice ca C.length cc) C.length (C.flatMap encCe), cellC b51 42 (([(.int .i64 (withinV ((((P.getD i pr0).C).getD k ce0).x.cl) 3)), (.int .i64 (1 + withinV ((((P.getD i pr0).C).getD k ce0).x.seq) 4))] : List Value) ++ hc (((P.getD i pr0).C).getD k ce0).x.h ++ ([(.int .i64 ((((P.getD i pr0).C).getD k ce0).x.len)), (.int .i64 ((((P.getD i pr0).C).getD k ce0).x.sb)), (.int .i64 ((((P.getD i pr0).C).getD k ce0).x.sm)), (.slice a73 ((((((P.getD i pr0).C).getD k ce0).S).take 5).length) c74)] : List Value)), rowC 46 38 (.slice a73 ((((((P.getD i pr0).C).getD k ce0).S).take 5).length) c74) ((((((P.getD i pr0).C).getD k ce0).S).take 5).length) ((((((P.getD i pr0).C).getD k ce0).S).take 5).flatMap encSt), rowC 42 38 (.slice (some ⟨b80, 0, none⟩) 1 1) 1 ([(⟨(⟨withinV ((((P.getD i pr0).C).getD k ce0).x.cl) 3, 1 + withinV ((((P.getD i pr0).C).getD k ce0).x.seq) 4, (((P.getD i pr0).C).getD k ce0).x.h, (((P.getD i pr0).C).getD k ce0).x.len, (((P.getD i pr0).C).getD k ce0).x.sb, (((P.getD i pr0).C).getD k ce0).x.sm⟩ : CommitD), a73, c74, (((((P.getD i pr0).C).getD k ce0).S).take 5)⟩ : CeR)].flatMap encCe)] w81 := H82.cast (by rw [(show ((([(.int .i64 (withinV ((((P.getD i pr0).C).getD k ce0).x.cl) 3)), (.int .i64 (1 + withinV ((((P.getD i pr0).C).getD k ce0).x.seq) 4))] : List Value) ++ hc (((P.getD i pr0).C).getD k ce0).x.h ++ ([(.int .i64 ((((P.getD i pr0).C).getD k ce0).x.len)), (.int .i64 ((((P.getD i pr0).C).getD k ce0).x.sb)), (.int .i64 ((((P.getD i pr0).C).getD k ce0).x.sm)), (.slice a73 ((((((P.getD i pr0).C).getD k ce0).S).take 5).length) c74)] : List Value)) : List Value) = [(⟨(⟨withinV ((((P.getD i pr0).C).getD k ce0).x.cl) 3, 1 + withinV ((((P.getD i pr0).C).getD k ce0).x.seq) 4, (((P.getD i pr0).C).getD k ce0).x.h, (((P.getD i pr0).C).getD k ce0).x.len, (((P.getD i pr0).C).getD k ce0).x.sb, (((P.getD i pr0).C).getD k ce0).x.sm⟩ : CommitD), a73, c74, (((((P.getD i pr0).C).getD k ce0).S).take 5)⟩ : CeR)].flatMap encCe by kernel_rfl)])
          refine hK79 _ _ ?_
          clear hK79 K79
          refine wl_do (wants0 rfl) (fun K84 hK84 => ?_)
          refine d_append (T := 29) (e := 42) (size := 38) (bytes := 96) rfl H83 (by kernel_rfl) 5 8 rfl rfl rfl rfl (flat_one encCe encCe_one [(⟨(⟨withinV ((((P.getD i pr0).C).getD k ce0).x.cl) 3, 1 + withinV ((((P.getD i pr0).C).getD k ce0).x.seq) 4, (((P.getD i pr0).C).getD k ce0).x.h, (((P.getD i pr0).C).getD k ce0).x.len, (((P.getD i pr0).C).getD k ce0).x.sb, (((P.getD i pr0).C).getD k ce0).x.sm⟩ : CommitD), a73, c74, (((((P.getD i pr0).C).getD k ce0).S).take 5)⟩ : CeR)]) (by omega) (by omega) ?_
          intro v85 w86 (H87 : Sat w [restC w (fun _ => False), cellC b2 27 ([(.int .i64 (ep)), (.int .u64 (tm)), (.slice pa P.length pc), (vo), (vt)] : List Value), rowC 33 6 (.slice da D.length dc) D.length (D.flatMap encPr), bagC L2, cellC b25 33 ([(.int .i64 ((P.getD i pr0).r)), (.int .i64 ((P.getD i pr0).e)), (.int .u64 ((P.getD i pr0).f)), (.slice (P.getD i pr0).ca ((P.getD i pr0).C).length (P.getD i pr0).cc), (.int .i64 ((P.getD i pr0).sb)), (.int .i64 ((P.getD i pr0).sm))] : List Value), rowC 42 38 v85 (C.length + 1) ((C.flatMap encCe) ++ ([(⟨(⟨withinV ((((P.getD i pr0).C).getD k ce0).x.cl) 3, 1 + withinV ((((P.getD i pr0).C).getD k ce0).x.seq) 4, (((P.getD i pr0).C).getD k ce0).x.h, (((P.getD i pr0).C).getD k ce0).x.len, (((P.getD i pr0).C).getD k ce0).x.sb, (((P.getD i pr0).C).getD k ce0).x.sm⟩ : CommitD), a73, c74, (((((P.getD i pr0).C).getD k ce0).S).take 5)⟩ : CeR)].flatMap encCe)), cellC b51 42 (([(.int .i64 (withinV ((((P.getD i pr0).C).getD k ce0).x.cl) 3)), (.int .i64 (1 + withinV ((((P.getD i pr0).C).getD k ce0).x.seq) 4))] : List Value) ++ hc (((P.getD i pr0).C).getD k ce0).x.h ++ ([(.int .i64 ((((P.getD i pr0).C).getD k ce0).x.len)), (.int .i64 ((((P.getD i pr0).C).getD k ce0).x.sb)), (.int .i64 ((((P.getD i pr0).C).getD k ce0).x.sm)), (.slice a73 ((((((P.getD i pr0).C).getD k ce0).S).take 5).length) c74)] : List Value)), rowC 46 38 (.slice a73 ((((((P.getD i pr0).C).getD k ce0).S).take 5).length) c74) ((((((P.getD i pr0).C).getD k ce0).S).take 5).length) ((((((P.getD i pr0).C).getD k ce0).S).take 5).flatMap encSt), rowC 42 38 (.slice (some ⟨b80, 0, none⟩) 1 1) 1 ([(⟨(⟨withinV ((((P.getD i pr0).C).getD k ce0).x.cl) 3, 1 + withinV ((((P.getD i pr0).C).getD k ce0).x.seq) 4, (((P.getD i pr0).C).getD k ce0).x.h, (((P.getD i pr0).C).getD k ce0).x.len, (((P.getD i pr0).C).getD k ce0).x.sb, (((P.getD i pr0).C).getD k ce0).x.sm⟩ : CommitD), a73, c74, (((((P.getD i pr0).C).getD k ce0).S).take 5)⟩ : CeR)].flatMap encCe)] w86)
          have H90 : Sat w [restC w (fun _ => False), cellC b2 27 ([(.int .i64 (ep)), (.int .u64 (tm)), (.slice pa P.length pc), (vo), (vt)] : List Value), rowC 33 6 (.slice da D.length dc) D.length (D.flatMap encPr), bagC L2, cellC b25 33 ([(.int .i64 ((P.getD i pr0).r)), (.int .i64 ((P.getD i pr0).e)), (.int .u64 ((P.getD i pr0).f)), (.slice (P.getD i pr0).ca ((P.getD i pr0).C).length (P.getD i pr0).cc), (.int .i64 ((P.getD i pr0).sb)), (.int .i64 ((P.getD i pr0).sm))] : List Value), rowC 42 38 v85 ((C ++ [(⟨(⟨withinV ((((P.getD i pr0).C).getD k ce0).x.cl) 3, 1 + withinV ((((P.getD i pr0).C).getD k ce0).x.seq) 4, (((P.getD i pr0).C).getD k ce0).x.h, (((P.getD i pr0).C).getD k ce0).x.len, (((P.getD i pr0).C).getD k ce0).x.sb, (((P.getD i pr0).C).getD k ce0).x.sm⟩ : CommitD), a73, c74, (((((P.getD i pr0).C).getD k ce0).S).take 5)⟩ : CeR)]).length) ((C ++ [(⟨(⟨withinV ((((P.getD i pr0).C).getD k ce0).x.cl) 3, 1 + withinV ((((P.getD i pr0).C).getD k ce0).x.seq) 4, (((P.getD i pr0).C).getD k ce0).x.h, (((P.getD i pr0).C).getD k ce0).x.len, (((P.getD i pr0).C).getD k ce0).x.sb, (((P.getD i pr0).C).getD k ce0).x.sm⟩ : CommitD), a73, c74, (((((P.getD i pr0).C).getD k ce0).S).take 5)⟩ : CeR)]).flatMap encCe), cellC b51 42 (([(.int .i64 (withinV ((((P.getD i pr0).C).getD k ce0).x.cl) 3)), (.int .i64 (1 + withinV ((((P.getD i pr0).C).getD k ce0).x.seq) 4))] : List Value) ++ hc (((P.getD i pr0).C).getD k ce0).x.h ++ ([(.int .i64 ((((P.getD i pr0).C).getD k ce0).x.len)), (.int .i64 ((((P.getD i pr0).C).getD k ce0).x.sb)), (.int .i64 ((((P.getD i pr0).C).getD k ce0).x.sm)), (.slice a73 ((((((P.getD i pr0).C).getD k ce0).S).take 5).length) c74)] : List Value)), rowC 46 38 (.slice a73 ((((((P.getD i pr0).C).getD k ce0).S).take 5).length) c74) ((((((P.getD i pr0).C).getD k ce0).S).take 5).length) ((((((P.getD i pr0).C).getD k ce0).S).take 5).flatMap encSt), rowC 42 38 (.slice (some ⟨b80, 0, none⟩) 1 1) 1 ([(⟨(⟨withinV ((((P.getD i pr0).C).getD k ce0).x.cl) 3, 1 + withinV ((((P.getD i pr0).C).getD k ce0).x.seq) 4, (((P.getD i pr0).C).getD k ce0).x.h, (((P.getD i pr0).C).getD k ce0).x.len, (((P.getD i pr0).C).getD k ce0).x.sb, (((P.getD i pr0).C).getD k ce0).x.sm⟩ : CommitD), a73, c74, (((((P.getD i pr0).C).getD k ce0).S).take 5)⟩ : CeR)].flatMap encCe)] w86 := H87.cast (by simp only [List.length_append, List.flatMap_append] <;> rfl)
          obtain ⟨a88, c89, rfl⟩ := ownsRow_shape (H90.at 5 rfl)
          refine hK84 _ _ ?_
          clear hK84 K84
          refine wl_pure (wants0 rfl) (d := 10) (v := (.slice a88 ((C ++ [(⟨(⟨withinV ((((P.getD i pr0).C).getD k ce0).x.cl) 3, 1 + withinV ((((P.getD i pr0).C).getD k ce0).x.seq) 4, (((P.getD i pr0).C).getD k ce0).x.h, (((P.getD i pr0).C).getD k ce0).x.len, (((P.getD i pr0).C).getD k ce0).x.sb, (((P.getD i pr0).C).getD k ce0).x.sm⟩ : CommitD), a73, c74, (((((P.getD i pr0).C).getD k ce0).S).take 5)⟩ : CeR)]).length) c89)) rfl (by kernel_rfl) ?_
          refine w_nil ?_
          refine blk_normal ?_
          refine then_normal ?_
          have H91 : Sat w [bagC (stC (⟨(⟨withinV ((((P.getD i pr0).C).getD k ce0).x.cl) 3, 1 + withinV ((((P.getD i pr0).C).getD k ce0).x.seq) 4, (((P.getD i pr0).C).getD k ce0).x.h, (((P.getD i pr0).C).getD k ce0).x.len, (((P.getD i pr0).C).getD k ce0).x.sb, (((P.getD i pr0).C).getD k ce0).x.sm⟩ : CommitD), a73, c74, (((((P.getD i pr0).C).getD k ce0).S).take 5)⟩ : CeR) :: L2), restC w (fun _ => False), cellC b2 27 ([(.int .i64 (ep)), (.int .u64 (tm)), (.slice pa P.length pc), (vo), (vt)] : List Value), rowC 33 6 (.slice da D.length dc) D.length (D.flatMap encPr), cellC b25 33 ([(.int .i64 ((P.getD i pr0).r)), (.int .i64 ((P.getD i pr0).e)), (.int .u64 ((P.getD i pr0).f)), (.slice (P.getD i pr0).ca ((P.getD i pr0).C).length (P.getD i pr0).cc), (.int .i64 ((P.getD i pr0).sb)), (.int .i64 ((P.getD i pr0).sm))] : List Value), rowC 42 38 (.slice a88 ((C ++ [(⟨(⟨withinV ((((P.getD i pr0).C).getD k ce0).x.cl) 3, 1 + withinV ((((P.getD i pr0).C).getD k ce0).x.seq) 4, (((P.getD i pr0).C).getD k ce0).x.h, (((P.getD i pr0).C).getD k ce0).x.len, (((P.getD i pr0).C).getD k ce0).x.sb, (((P.getD i pr0).C).getD k ce0).x.sm⟩ : CommitD), a73, c74, (((((P.getD i pr0).C).getD k ce0).S).take 5)⟩ : CeR)]).length) c89) ((C ++ [(⟨(⟨withinV ((((P.getD i pr0).C).getD k ce0).x.cl) 3, 1 + withinV ((((P.getD i pr0).C).getD k ce0).x.seq) 4, (((P.getD i pr0).C).getD k ce0).x.h, (((P.getD i pr0).C).getD k ce0).x.len, (((P.getD i pr0).C).getD k ce0).x.sb, (((P.getD i pr0).C).getD k ce0).x.sm⟩ : CommitD), a73, c74, (((((P.getD i pr0).C).getD k ce0).S).take 5)⟩ : CeR)]).length) ((C ++ [(⟨(⟨withinV ((((P.getD i pr0).C).getD k ce0).x.cl) 3, 1 + withinV ((((P.getD i pr0).C).getD k ce0).x.seq) 4, (((P.getD i pr0).C).getD k ce0).x.h, (((P.getD i pr0).C).getD k ce0).x.len, (((P.getD i pr0).C).getD k ce0).x.sb, (((P.getD i pr0).C).getD k ce0).x.sm⟩ : CommitD), a73, c74, (((((P.getD i pr0).C).getD k ce0).S).take 5)⟩ : CeR)]).flatMap encCe), cellC b51 42 (([(.int .i64 (withinV ((((P.getD i pr0).C).getD k ce0).x.cl) 3)), (.int .i64 (1 + withinV ((((P.getD i pr0).C).getD k ce0).x.seq) 4))] : List Value) ++ hc (((P.getD i pr0).C).getD k ce0).x.h ++ ([(.int .i64 ((((P.getD i pr0).C).getD k ce0).x.len)), (.int .i64 ((((P.getD i pr0).C).getD k ce0).x.sb)), (.int .i64 ((((P.getD i pr0).C).getD k ce0).x.sm)), (.slice a73 ((((((P.getD i pr0).C).getD k ce0).S).take 5).length) c74)] : List Value)), rowC 42 38 (.slice (some ⟨b80, 0, none⟩) 1 1) 1 ([(⟨(⟨withinV ((((P.getD i pr0).C).getD k ce0).x.cl) 3, 1 + withinV ((((P.getD i pr0).C).getD k ce0).x.seq) 4, (((P.getD i pr0).C).getD k ce0).x.h, (((P.getD i pr0).C).getD k ce0).x.len, (((P.getD i pr0).C).getD k ce0).x.sb, (((P.getD i pr0).C).getD k ce0).x.sm⟩ : CommitD), a73, c74, (((((P.getD i pr0).C).getD k ce0).S).take 5)⟩ : CeR)].flatMap encCe)] w86 := (H90.pick [3, 7, 0, 1, 2, 4, 5, 6, 8] (by decide)).bag
          have H92 : Sat w [restC w (fun _ => False), cellC b2 27 ([(.int .i64 (ep)), (.int .u64 (tm)), (.slice pa P.length pc), (vo), (vt)] : List Value), rowC 33 6 (.slice da D.length dc) D.length (D.flatMap encPr), bagC (stC (⟨(⟨withinV ((((P.getD i pr0).C).getD k ce0).x.cl) 3, 1 + withinV ((((P.getD i pr0).C).getD k ce0).x.seq) 4, (((P.getD i pr0).C).getD k ce0).x.h, (((P.getD i pr0).C).getD k ce0).x.len, (((P.getD i pr0).C).getD k ce0).x.sb, (((P.getD i pr0).C).getD k ce0).x.sm⟩ : CommitD), a73, c74, (((((P.getD i pr0).C).getD k ce0).S).take 5)⟩ : CeR) :: L2), cellC b25 33 ([(.int .i64 ((P.getD i pr0).r)), (.int .i64 ((P.getD i pr0).e)), (.int .u64 ((P.getD i pr0).f)), (.slice (P.getD i pr0).ca ((P.getD i pr0).C).length (P.getD i pr0).cc), (.int .i64 ((P.getD i pr0).sb)), (.int .i64 ((P.getD i pr0).sm))] : List Value), rowC 42 38 (.slice a88 ((C ++ [(⟨(⟨withinV ((((P.getD i pr0).C).getD k ce0).x.cl) 3, 1 + withinV ((((P.getD i pr0).C).getD k ce0).x.seq) 4, (((P.getD i pr0).C).getD k ce0).x.h, (((P.getD i pr0).C).getD k ce0).x.len, (((P.getD i pr0).C).getD k ce0).x.sb, (((P.getD i pr0).C).getD k ce0).x.sm⟩ : CommitD), a73, c74, (((((P.getD i pr0).C).getD k ce0).S).take 5)⟩ : CeR)]).length) c89) ((C ++ [(⟨(⟨withinV ((((P.getD i pr0).C).getD k ce0).x.cl) 3, 1 + withinV ((((P.getD i pr0).C).getD k ce0).x.seq) 4, (((P.getD i pr0).C).getD k ce0).x.h, (((P.getD i pr0).C).getD k ce0).x.len, (((P.getD i pr0).C).getD k ce0).x.sb, (((P.getD i pr0).C).getD k ce0).x.sm⟩ : CommitD), a73, c74, (((((P.getD i pr0).C).getD k ce0).S).take 5)⟩ : CeR)]).length) ((C ++ [(⟨(⟨withinV ((((P.getD i pr0).C).getD k ce0).x.cl) 3, 1 + withinV ((((P.getD i pr0).C).getD k ce0).x.seq) 4, (((P.getD i pr0).C).getD k ce0).x.h, (((P.getD i pr0).C).getD k ce0).x.len, (((P.getD i pr0).C).getD k ce0).x.sb, (((P.getD i pr0).C).getD k ce0).x.sm⟩ : CommitD), a73, c74, (((((P.getD i pr0).C).getD k ce0).S).take 5)⟩ : CeR)]).flatMap encCe), cellC b51 42 (([(.int .i64 (withinV ((((P.getD i pr0).C).getD k ce0).x.cl) 3)), (.int .i64 (1 + withinV ((((P.getD i pr0).C).getD k ce0).x.seq) 4))] : List Value) ++ hc (((P.getD i pr0).C).getD k ce0).x.h ++ ([(.int .i64 ((((P.getD i pr0).C).getD k ce0).x.len)), (.int .i64 ((((P.getD i pr0).C).getD k ce0).x.sb)), (.int .i64 ((((P.getD i pr0).C).getD k ce0).x.sm)), (.slice a73 ((((((P.getD i pr0).C).getD k ce0).S).take 5).length) c74)] : List Value)), rowC 42 38 (.slice (some ⟨b80, 0, none⟩) 1 1) 1 ([(⟨(⟨withinV ((((P.getD i pr0).C).getD k ce0).x.cl) 3, 1 + withinV ((((P.getD i pr0).C).getD k ce0).x.seq) 4, (((P.getD i pr0).C).getD k ce0).x.h, (((P.getD i pr0).C).getD k ce0).x.len, (((P.getD i pr0).C).getD k ce0).x.sb, (((P.getD i pr0).C).getD k ce0).x.sm⟩ : CommitD), a73, c74, (((((P.getD i pr0).C).getD k ce0).S).take 5)⟩ : CeR)].flatMap encCe)] w86 := H91.pick [1, 2, 3, 0, 4, 5, 6, 7] (by decide)
          refine w_lit ?_
          refine wl_pure (wants0 rfl) (d := 42) (v := (.int .i64 ((k : Int)))) rfl (by kernel_rfl) ?_
          refine wl_pure (wants0 rfl) (d := 43) (v := (.int .i64 ((k : Int) + 1))) rfl (e_int (z := (k : Int) + 1) (by kernel_rfl) (IntWalk.i64_in _ (by omega))) ?_
          refine wl_pure (wants0 rfl) (d := 11) (v := (.int .i64 ((k : Int) + 1))) rfl (by kernel_rfl) ?_
          refine w_nil ?_
          have H93 : Sat w [restC w (fun _ => False), cellC b2 27 ([(.int .i64 (ep)), (.int .u64 (tm)), (.slice pa P.length pc), (vo), (vt)] : List Value), rowC 33 6 (.slice da D.length dc) D.length (D.flatMap encPr), bagC (stC (⟨(⟨withinV ((((P.getD i pr0).C).getD k ce0).x.cl) 3, 1 + withinV ((((P.getD i pr0).C).getD k ce0).x.seq) 4, (((P.getD i pr0).C).getD k ce0).x.h, (((P.getD i pr0).C).getD k ce0).x.len, (((P.getD i pr0).C).getD k ce0).x.sb, (((P.getD i pr0).C).getD k ce0).x.sm⟩ : CommitD), a73, c74, (((((P.getD i pr0).C).getD k ce0).S).take 5)⟩ : CeR) :: L2), cellC b25 33 ([(.int .i64 ((P.getD i pr0).r)), (.int .i64 ((P.getD i pr0).e)), (.int .u64 ((P.getD i pr0).f)), (.slice (P.getD i pr0).ca ((P.getD i pr0).C).length (P.getD i pr0).cc), (.int .i64 ((P.getD i pr0).sb)), (.int .i64 ((P.getD i pr0).sm))] : List Value), rowC 42 38 (.slice a88 ((C ++ [(⟨(⟨withinV ((((P.getD i pr0).C).getD k ce0).x.cl) 3, 1 + withinV ((((P.getD i pr0).C).getD k ce0).x.seq) 4, (((P.getD i pr0).C).getD k ce0).x.h, (((P.getD i pr0).C).getD k ce0).x.len, (((P.getD i pr0).C).getD k ce0).x.sb, (((P.getD i pr0).C).getD k ce0).x.sm⟩ : CommitD), a73, c74, (((((P.getD i pr0).C).getD k ce0).S).take 5)⟩ : CeR)]).length) c89) ((C ++ [(⟨(⟨withinV ((((P.getD i pr0).C).getD k ce0).x.cl) 3, 1 + withinV ((((P.getD i pr0).C).getD k ce0).x.seq) 4, (((P.getD i pr0).C).getD k ce0).x.h, (((P.getD i pr0).C).getD k ce0).x.len, (((P.getD i pr0).C).getD k ce0).x.sb, (((P.getD i pr0).C).getD k ce0).x.sm⟩ : CommitD), a73, c74, (((((P.getD i pr0).C).getD k ce0).S).take 5)⟩ : CeR)]).length) ((C ++ [(⟨(⟨withinV ((((P.getD i pr0).C).getD k ce0).x.cl) 3, 1 + withinV ((((P.getD i pr0).C).getD k ce0).x.seq) 4, (((P.getD i pr0).C).getD k ce0).x.h, (((P.getD i pr0).C).getD k ce0).x.len, (((P.getD i pr0).C).getD k ce0).x.sb, (((P.getD i pr0).C).getD k ce0).x.sm⟩ : CommitD), a73, c74, (((((P.getD i pr0).C).getD k ce0).S).take 5)⟩ : CeR)]).flatMap encCe)] w86 := H92.pick [0, 1, 2, 3, 4, 5] (by decide)
          refine round_back ?_ _ ⟨(k + 1), a88, c89, (C ++ [(⟨(⟨withinV ((((P.getD i pr0).C).getD k ce0).x.cl) 3, 1 + withinV ((((P.getD i pr0).C).getD k ce0).x.seq) 4, (((P.getD i pr0).C).getD k ce0).x.h, (((P.getD i pr0).C).getD k ce0).x.len, (((P.getD i pr0).C).getD k ce0).x.sb, (((P.getD i pr0).C).getD k ce0).x.sm⟩ : CommitD), a73, c74, (((((P.getD i pr0).C).getD k ce0).S).take 5)⟩ : CeR)]), (stC (⟨(⟨withinV ((((P.getD i pr0).C).getD k ce0).x.cl) 3, 1 + withinV ((((P.getD i pr0).C).getD k ce0).x.seq) 4, (((P.getD i pr0).C).getD k ce0).x.h, (((P.getD i pr0).C).getD k ce0).x.len, (((P.getD i pr0).C).getD k ce0).x.sb, (((P.getD i pr0).C).getD k ce0).x.sm⟩ : CommitD), a73, c74, (((((P.getD i pr0).C).getD k ce0).S).take 5)⟩ : CeR) :: L2), (show ((.int .i64 ((k : Int) + 1)) : Value) = _ by first | rfl | go_num), (show ((.slice a88 ((C ++ [(⟨(⟨withinV ((((P.getD i pr0).C).getD k ce0).x.cl) 3, 1 + withinV ((((P.getD i pr0).C).getD k ce0).x.seq) 4, (((P.getD i pr0).C).getD k ce0).x.h, (((P.getD i pr0).C).getD k ce0).x.len, (((P.getD i pr0).C).getD k ce0).x.sb, (((P.getD i pr0).C).getD k ce0).x.sm⟩ : CommitD), a73, c74, (((((P.getD i pr0).C).getD k ce0).S).take 5)⟩ : CeR)]).length) c89) : Value) = _ by first | rfl | go_num), (by omega), (by simp only [List.length_append, List.length_cons, List.length_nil]; omega), (ce_more hC (cesm_new rfl rfl (hSt i (by omega) _ (getD_memC (by omega))))), (in_more hin), (pin_more hpn2), H93, rfl⟩ (by omega)
          exact (same_upd rfl (same_upd rfl (same_upd rfl (same_upd rfl (same_upd rfl (same_upd rfl (same_upd rfl (same_upd rfl (same_upd rfl (same_upd rfl (same_upd rfl (same_upd rfl (same_upd rfl (same_upd rfl (same_upd rfl (same_upd rfl (same_upd rfl (same_upd rfl (same_upd rfl (same_upd rfl (same_upd rfl (same_upd rfl (same_upd rfl (same_upd rfl (same_upd rfl (same_upd rfl (same_upd rfl (same_upd rfl (same_upd rfl (same_upd rfl (same_upd rfl (same_upd rfl (same_upd rfl (same_upd rfl (same_upd rfl (same_upd rfl (same_upd rfl (same_ovr))))))))))))))))))))))))))))))))))))))
        · have g94 := of_decide_eq_false b42
          refine wp_know 41 (.bool false) (congrArg Value.bool b42) ?_
          have g95 := of_decide_eq_false b42
          refine wp_iff rfl ?_
          refine w_exit ?_
          refine then_exit ?_
          refine back_exit ?_
          refine blk_hit ?_
          refine then_normal ?_
          refine w_seq ?_
          refine w_lit ?_
          refine wl_pure (wants0 rfl) (d := 63) (v := (.slice ca C.length cc)) rfl (by kernel_rfl) ?_
          refine wl_pure (wants0 rfl) (d := 64) (v := (.pointer (some ⟨b25, 3, none⟩))) rfl (by kernel_rfl) ?_
          refine wl_do (wants0 rfl) (fun K96 hK96 => ?_)
          refine d_storeX (vs := ([(.slice ca C.length cc)] : List Value)) (cs' := ([(.int .i64 ((P.getD i pr0).r)), (.int .i64 ((P.getD i pr0).e)), (.int .u64 ((P.getD i pr0).f)), (.slice ca C.length cc), (.int .i64 ((P.getD i pr0).sb)), (.int .i64 ((P.getD i pr0).sm))] : List Value)) rfl H35 4 rfl rfl rfl rfl (by kernel_rfl) (Nat.le_of_ble_eq_true (by kernel_rfl)) (Nat.le_of_ble_eq_true (by kernel_rfl)) (by kernel_rfl) (by kernel_rfl) ?_
          intro w97 (H98 : Sat w [restC w (fun _ => False), cellC b2 27 ([(.int .i64 (ep)), (.int .u64 (tm)), (.slice pa P.length pc), (vo), (vt)] : List Value), rowC 33 6 (.slice da D.length dc) D.length (D.flatMap encPr), bagC L2, cellC b25 33 ([(.int .i64 ((P.getD i pr0).r)), (.int .i64 ((P.getD i pr0).e)), (.int .u64 ((P.getD i pr0).f)), (.slice ca C.length cc), (.int .i64 ((P.getD i pr0).sb)), (.int .i64 ((P.getD i pr0).sm))] : List Value), rowC 42 38 (.slice ca C.length cc) C.length (C.flatMap encCe)] w97)
          refine hK96 _ _ ?_
          clear hK96 K96
          refine w_nil ?_
          refine then_normal ?_
          refine w_lit ?_
          refine wl_pure (wants0 rfl) (d := 65) (v := (.slice da D.length dc)) rfl (by kernel_rfl) ?_
          refine wl_pure (wants0 rfl) (d := 66) (v := (.agg ⟨([(.int .i64 ((P.getD i pr0).r)), (.int .i64 ((P.getD i pr0).e)), (.int .u64 ((P.getD i pr0).f)), (.slice ca C.length cc), (.int .i64 ((P.getD i pr0).sb)), (.int .i64 ((P.getD i pr0).sm))] : List Value)⟩)) rfl (e_loadN (vs := ([(.int .i64 ((P.getD i pr0).r)), (.int .i64 ((P.getD i pr0).e)), (.int .u64 ((P.getD i pr0).f)), (.slice ca C.length cc), (.int .i64 ((P.getD i pr0).sb)), (.int .i64 ((P.getD i pr0).sm))] : List Value)) rfl (by kernel_rfl) (by kernel_rfl) (by exact Nat.le_of_ble_eq_true (by kernel_rfl)) (H98.at 4 rfl) (by kernel_rfl)) ?_
          refine wl_do (wants0 rfl) (fun K100 hK100 => ?_)
          refine d_buildSlice (e := 33) (size := 6) (bytes := 64) (z := (.agg ⟨([(.int .i64 (0)), (.int .i64 (0)), (.int .u64 (0)), (.slice none 0 0), (.int .i64 (0)), (.int .i64 (0))] : List Value)⟩)) (pvs := [(0, (.agg ⟨([(.int .i64 ((P.getD i pr0).r)), (.int .i64 ((P.getD i pr0).e)), (.int .u64 ((P.getD i pr0).f)), (.slice ca C.length cc), (.int .i64 ((P.getD i pr0).sb)), (.int .i64 ((P.getD i pr0).sm))] : List Value)⟩))]) (vs := ([(.int .i64 ((P.getD i pr0).r)), (.int .i64 ((P.getD i pr0).e)), (.int .u64 ((P.getD i pr0).f)), (.slice ca C.length cc), (.int .i64 ((P.getD i pr0).sb)), (.int .i64 ((P.getD i pr0).sm))] : List Value)) rfl H98 (by kernel_rfl) (by kernel_rfl) (by kernel_rfl) (by kernel_rfl) (by kernel_rfl) rfl rfl ?_
          intro b101 w102 (H103 : Sat w [restC w (fun _ => False), cellC b2 27 ([(.int .i64 (ep)), (.int .u64 (tm)), (.slice pa P.length pc), (vo), (vt)] : List Value), rowC 33 6 (.slice da D.length dc) D.length (D.flatMap encPr), bagC L2, cellC b25 33 ([(.int .i64 ((P.getD i pr0).r)), (.int .i64 ((P.getD i pr0).e)), (.int .u64 ((P.getD i pr0).f)), (.slice ca C.length cc), (.int .i64 ((P.getD i pr0).sb)), (.int .i64 ((P.getD i pr0).sm))] : List Value), rowC 42 38 (.slice ca C.length cc) C.length (C.flatMap encCe), rowC 33 6 (.slice (some ⟨b101, 0, none⟩) 1 1) 1 ([(.int .i64 ((P.getD i pr0).r)), (.int .i64 ((P.getD i pr0).e)), (.int .u64 ((P.getD i pr0).f)), (.slice ca C.length cc), (.int .i64 ((P.getD i pr0).sb)), (.int .i64 ((P.getD i pr0).sm))] : List Value)] w102)
          have H104 : Sat w [restC w (fun _ => False), cellC b2 27 ([(.int .i64 (ep)), (.int .u64 (tm)), (.slice pa P.length pc), (vo), (vt)] : List Value), rowC 33 6 (.slice da D.length dc) D.length (D.flatMap encPr), bagC L2, cellC b25 33 ([(.int .i64 ((P.getD i pr0).r)), (.int .i64 ((P.getD i pr0).e)), (.int .u64 ((P.getD i pr0).f)), (.slice ca C.length cc), (.int .i64 ((P.getD i pr0).sb)), (.int .i64 ((P.getD i pr0).sm))] : List Value), rowC 42 38 (.slice ca C.length cc) C.length (C.flatMap encCe), rowC 33 6 (.slice (some ⟨b101, 0, none⟩) 1 1) 1 ([(⟨(P.getD i pr0).r, (P.getD i pr0).e, (P.getD i pr0).f, ca, cc, (P.getD i pr0).sb, (P.getD i pr0).sm, C⟩ : PrR)].flatMap encPr)] w102 := H103.cast (by rw [(show (([(.int .i64 ((P.getD i pr0).r)), (.int .i64 ((P.getD i pr0).e)), (.int .u64 ((P.getD i pr0).f)), (.slice ca C.length cc), (.int .i64 ((P.getD i pr0).sb)), (.int .i64 ((P.getD i pr0).sm))] : List Value) : List Value) = [(⟨(P.getD i pr0).r, (P.getD i pr0).e, (P.getD i pr0).f, ca, cc, (P.getD i pr0).sb, (P.getD i pr0).sm, C⟩ : PrR)].flatMap encPr by kernel_rfl)])
          refine hK100 _ _ ?_
          clear hK100 K100
          refine wl_do (wants0 rfl) (fun K105 hK105 => ?_)
          refine d_append (T := 23) (e := 33) (size := 6) (bytes := 64) rfl H104 (by kernel_rfl) 2 6 rfl rfl rfl rfl (flat_one encPr encPr_one [(⟨(P.getD i pr0).r, (P.getD i pr0).e, (P.getD i pr0).f, ca, cc, (P.getD i pr0).sb, (P.getD i pr0).sm, C⟩ : PrR)]) (by omega) (by omega) ?_
          intro v106 w107 (H108 : Sat w [restC w (fun _ => False), cellC b2 27 ([(.int .i64 (ep)), (.int .u64 (tm)), (.slice pa P.length pc), (vo), (vt)] : List Value), rowC 33 6 v106 (D.length + 1) ((D.flatMap encPr) ++ ([(⟨(P.getD i pr0).r, (P.getD i pr0).e, (P.getD i pr0).f, ca, cc, (P.getD i pr0).sb, (P.getD i pr0).sm, C⟩ : PrR)].flatMap encPr)), bagC L2, cellC b25 33 ([(.int .i64 ((P.getD i pr0).r)), (.int .i64 ((P.getD i pr0).e)), (.int .u64 ((P.getD i pr0).f)), (.slice ca C.length cc), (.int .i64 ((P.getD i pr0).sb)), (.int .i64 ((P.getD i pr0).sm))] : List Value), rowC 42 38 (.slice ca C.length cc) C.length (C.flatMap encCe), rowC 33 6 (.slice (some ⟨b101, 0, none⟩) 1 1) 1 ([(⟨(P.getD i pr0).r, (P.getD i pr0).e, (P.getD i pr0).f, ca, cc, (P.getD i pr0).sb, (P.getD i pr0).sm, C⟩ : PrR)].flatMap encPr)] w107)
          have H111 : Sat w [restC w (fun _ => False), cellC b2 27 ([(.int .i64 (ep)), (.int .u64 (tm)), (.slice pa P.length pc), (vo), (vt)] : List Value), rowC 33 6 v106 ((D ++ [(⟨(P.getD i pr0).r, (P.getD i pr0).e, (P.getD i pr0).f, ca, cc, (P.getD i pr0).sb, (P.getD i pr0).sm, C⟩ : PrR)]).length) ((D ++ [(⟨(P.getD i pr0).r, (P.getD i pr0).e, (P.getD i pr0).f, ca, cc, (P.getD i pr0).sb, (P.getD i pr0).sm, C⟩ : PrR)]).flatMap encPr), bagC L2, cellC b25 33 ([(.int .i64 ((P.getD i pr0).r)), (.int .i64 ((P.getD i pr0).e)), (.int .u64 ((P.getD i pr0).f)), (.slice ca C.length cc), (.int .i64 ((P.getD i pr0).sb)), (.int .i64 ((P.getD i pr0).sm))] : List Value), rowC 42 38 (.slice ca C.length cc) C.length (C.flatMap encCe), rowC 33 6 (.slice (some ⟨b101, 0, none⟩) 1 1) 1 ([(⟨(P.getD i pr0).r, (P.getD i pr0).e, (P.getD i pr0).f, ca, cc, (P.getD i pr0).sb, (P.getD i pr0).sm, C⟩ : PrR)].flatMap encPr)] w107 := H108.cast (by simp only [List.length_append, List.flatMap_append] <;> rfl)
          obtain ⟨a109, c110, rfl⟩ := ownsRow_shape (H111.at 2 rfl)
          refine hK105 _ _ ?_
          clear hK105 K105
          refine wl_pure (wants0 rfl) (d := 7) (v := (.slice a109 ((D ++ [(⟨(P.getD i pr0).r, (P.getD i pr0).e, (P.getD i pr0).f, ca, cc, (P.getD i pr0).sb, (P.getD i pr0).sm, C⟩ : PrR)]).length) c110)) rfl (by kernel_rfl) ?_
          refine w_nil ?_
          refine blk_normal ?_
          refine then_normal ?_
          have H112 : Sat w [bagC (ceC (⟨(P.getD i pr0).r, (P.getD i pr0).e, (P.getD i pr0).f, ca, cc, (P.getD i pr0).sb, (P.getD i pr0).sm, C⟩ : PrR) :: L2), restC w (fun _ => False), cellC b2 27 ([(.int .i64 (ep)), (.int .u64 (tm)), (.slice pa P.length pc), (vo), (vt)] : List Value), rowC 33 6 (.slice a109 ((D ++ [(⟨(P.getD i pr0).r, (P.getD i pr0).e, (P.getD i pr0).f, ca, cc, (P.getD i pr0).sb, (P.getD i pr0).sm, C⟩ : PrR)]).length) c110) ((D ++ [(⟨(P.getD i pr0).r, (P.getD i pr0).e, (P.getD i pr0).f, ca, cc, (P.getD i pr0).sb, (P.getD i pr0).sm, C⟩ : PrR)]).length) ((D ++ [(⟨(P.getD i pr0).r, (P.getD i pr0).e, (P.getD i pr0).f, ca, cc, (P.getD i pr0).sb, (P.getD i pr0).sm, C⟩ : PrR)]).flatMap encPr), cellC b25 33 ([(.int .i64 ((P.getD i pr0).r)), (.int .i64 ((P.getD i pr0).e)), (.int .u64 ((P.getD i pr0).f)), (.slice ca C.length cc), (.int .i64 ((P.getD i pr0).sb)), (.int .i64 ((P.getD i pr0).sm))] : List Value), rowC 33 6 (.slice (some ⟨b101, 0, none⟩) 1 1) 1 ([(⟨(P.getD i pr0).r, (P.getD i pr0).e, (P.getD i pr0).f, ca, cc, (P.getD i pr0).sb, (P.getD i pr0).sm, C⟩ : PrR)].flatMap encPr)] w107 := (H111.pick [3, 5, 0, 1, 2, 4, 6] (by decide)).bag
          have H113 : Sat w [restC w (fun _ => False), cellC b2 27 ([(.int .i64 (ep)), (.int .u64 (tm)), (.slice pa P.length pc), (vo), (vt)] : List Value), rowC 33 6 (.slice a109 ((D ++ [(⟨(P.getD i pr0).r, (P.getD i pr0).e, (P.getD i pr0).f, ca, cc, (P.getD i pr0).sb, (P.getD i pr0).sm, C⟩ : PrR)]).length) c110) ((D ++ [(⟨(P.getD i pr0).r, (P.getD i pr0).e, (P.getD i pr0).f, ca, cc, (P.getD i pr0).sb, (P.getD i pr0).sm, C⟩ : PrR)]).length) ((D ++ [(⟨(P.getD i pr0).r, (P.getD i pr0).e, (P.getD i pr0).f, ca, cc, (P.getD i pr0).sb, (P.getD i pr0).sm, C⟩ : PrR)]).flatMap encPr), bagC (ceC (⟨(P.getD i pr0).r, (P.getD i pr0).e, (P.getD i pr0).f, ca, cc, (P.getD i pr0).sb, (P.getD i pr0).sm, C⟩ : PrR) :: L2), cellC b25 33 ([(.int .i64 ((P.getD i pr0).r)), (.int .i64 ((P.getD i pr0).e)), (.int .u64 ((P.getD i pr0).f)), (.slice ca C.length cc), (.int .i64 ((P.getD i pr0).sb)), (.int .i64 ((P.getD i pr0).sm))] : List Value), rowC 33 6 (.slice (some ⟨b101, 0, none⟩) 1 1) 1 ([(⟨(P.getD i pr0).r, (P.getD i pr0).e, (P.getD i pr0).f, ca, cc, (P.getD i pr0).sb, (P.getD i pr0).sm, C⟩ : PrR)].flatMap encPr)] w107 := H112.pick [1, 2, 3, 0, 4, 5] (by decide)
          refine w_lit ?_
          refine wl_pure (wants0 rfl) (d := 26) (v := (.int .i64 ((i : Int)))) rfl (by kernel_rfl) ?_
          refine wl_pure (wants0 rfl) (d := 27) (v := (.int .i64 ((i : Int) + 1))) rfl (e_int (z := (i : Int) + 1) (by kernel_rfl) (IntWalk.i64_in _ (by omega))) ?_
          refine wl_pure (wants0 rfl) (d := 8) (v := (.int .i64 ((i : Int) + 1))) rfl (by kernel_rfl) ?_
          refine w_nil ?_
          have H114 : Sat w [restC w (fun _ => False), cellC b2 27 ([(.int .i64 (ep)), (.int .u64 (tm)), (.slice pa P.length pc), (vo), (vt)] : List Value), rowC 33 6 (.slice a109 ((D ++ [(⟨(P.getD i pr0).r, (P.getD i pr0).e, (P.getD i pr0).f, ca, cc, (P.getD i pr0).sb, (P.getD i pr0).sm, C⟩ : PrR)]).length) c110) ((D ++ [(⟨(P.getD i pr0).r, (P.getD i pr0).e, (P.getD i pr0).f, ca, cc, (P.getD i pr0).sb, (P.getD i pr0).sm, C⟩ : PrR)]).length) ((D ++ [(⟨(P.getD i pr0).r, (P.getD i pr0).e, (P.getD i pr0).f, ca, cc, (P.getD i pr0).sb, (P.getD i pr0).sm, C⟩ : PrR)]).flatMap encPr), bagC (ceC (⟨(P.getD i pr0).r, (P.getD i pr0).e, (P.getD i pr0).f, ca, cc, (P.getD i pr0).sb, (P.getD i pr0).sm, C⟩ : PrR) :: L2)] w107 := H113.pick [0, 1, 2, 3] (by decide)
          refine round_back ?_ _ ⟨(i + 1), a109, c110, (D ++ [(⟨(P.getD i pr0).r, (P.getD i pr0).e, (P.getD i pr0).f, ca, cc, (P.getD i pr0).sb, (P.getD i pr0).sm, C⟩ : PrR)]), (ceC (⟨(P.getD i pr0).r, (P.getD i pr0).e, (P.getD i pr0).f, ca, cc, (P.getD i pr0).sb, (P.getD i pr0).sm, C⟩ : PrR) :: L2), (show ((.int .i64 ((i : Int) + 1)) : Value) = _ by first | rfl | go_num), (show ((.slice a109 ((D ++ [(⟨(P.getD i pr0).r, (P.getD i pr0).e, (P.getD i pr0).f, ca, cc, (P.getD i pr0).sb, (P.getD i pr0).sm, C⟩ : PrR)]).length) c110) : Value) = _ by first | rfl | go_num), (by omega), (by simp only [List.length_append, List.length_cons, List.length_nil]; omega), (psm_new hsm hC), (len_new hD5 (show C.length ≤ 5 by omega)), (pin_new hpn2 hin), H114, rfl⟩ (by omega)
          exact (same_upd rfl (same_upd rfl (same_upd rfl (same_upd rfl (same_upd rfl (same_upd rfl (same_upd rfl (same_upd rfl (same_upd rfl (same_upd rfl (same_upd rfl (same_upd rfl (same_upd rfl (same_upd rfl (same_upd rfl (same_upd rfl (same_upd rfl (same_upd rfl (same_upd rfl (same_upd rfl (same_upd rfl (same_upd rfl (same_upd rfl (same_ovr2 rfl (same_upd rfl (same_upd rfl (same_upd rfl (same_upd rfl (same_upd rfl (same_upd rfl (same_upd rfl (same_upd rfl (same_upd rfl (same_upd rfl (same_upd rfl (same_upd rfl (same_upd rfl (same_upd rfl (same_upd rfl (same_upd rfl (same_upd rfl (same_upd rfl (same_upd rfl (same_upd rfl (same_upd rfl (same_ovr))))))))))))))))))))))))))))))))))))))))))))))
      · have g115 := of_decide_eq_false b39
        refine wl_know 38 (.bool false) (congrArg Value.bool b39) ?_
        have g116 := of_decide_eq_false b39
        refine wl_pass (wantsN 5 38 true rfl (by kernel_rfl) rfl (by kernel_rfl)) rfl ?_
        refine wl_pass (wantsN 5 38 true rfl (by kernel_rfl) rfl (by kernel_rfl)) rfl ?_
        refine wl_pure (wants0 rfl) (d := 41) (v := (.bool false)) rfl (by kernel_rfl) ?_
        refine w_nil ?_
        refine then_normal ?_
        refine wp_iff rfl ?_
        refine w_exit ?_
        refine then_exit ?_
        refine back_exit ?_
        refine blk_hit ?_
        refine then_normal ?_
        refine w_seq ?_
        refine w_lit ?_
        refine wl_pure (wants0 rfl) (d := 63) (v := (.slice ca C.length cc)) rfl (by kernel_rfl) ?_
        refine wl_pure (wants0 rfl) (d := 64) (v := (.pointer (some ⟨b25, 3, none⟩))) rfl (by kernel_rfl) ?_
        refine wl_do (wants0 rfl) (fun K117 hK117 => ?_)
        refine d_storeX (vs := ([(.slice ca C.length cc)] : List Value)) (cs' := ([(.int .i64 ((P.getD i pr0).r)), (.int .i64 ((P.getD i pr0).e)), (.int .u64 ((P.getD i pr0).f)), (.slice ca C.length cc), (.int .i64 ((P.getD i pr0).sb)), (.int .i64 ((P.getD i pr0).sm))] : List Value)) rfl H35 4 rfl rfl rfl rfl (by kernel_rfl) (Nat.le_of_ble_eq_true (by kernel_rfl)) (Nat.le_of_ble_eq_true (by kernel_rfl)) (by kernel_rfl) (by kernel_rfl) ?_
        intro w118 (H119 : Sat w [restC w (fun _ => False), cellC b2 27 ([(.int .i64 (ep)), (.int .u64 (tm)), (.slice pa P.length pc), (vo), (vt)] : List Value), rowC 33 6 (.slice da D.length dc) D.length (D.flatMap encPr), bagC L2, cellC b25 33 ([(.int .i64 ((P.getD i pr0).r)), (.int .i64 ((P.getD i pr0).e)), (.int .u64 ((P.getD i pr0).f)), (.slice ca C.length cc), (.int .i64 ((P.getD i pr0).sb)), (.int .i64 ((P.getD i pr0).sm))] : List Value), rowC 42 38 (.slice ca C.length cc) C.length (C.flatMap encCe)] w118)
        refine hK117 _ _ ?_
        clear hK117 K117
        refine w_nil ?_
        refine then_normal ?_
        refine w_lit ?_
        refine wl_pure (wants0 rfl) (d := 65) (v := (.slice da D.length dc)) rfl (by kernel_rfl) ?_
        refine wl_pure (wants0 rfl) (d := 66) (v := (.agg ⟨([(.int .i64 ((P.getD i pr0).r)), (.int .i64 ((P.getD i pr0).e)), (.int .u64 ((P.getD i pr0).f)), (.slice ca C.length cc), (.int .i64 ((P.getD i pr0).sb)), (.int .i64 ((P.getD i pr0).sm))] : List Value)⟩)) rfl (e_loadN (vs := ([(.int .i64 ((P.getD i pr0).r)), (.int .i64 ((P.getD i pr0).e)), (.int .u64 ((P.getD i pr0).f)), (.slice ca C.length cc), (.int .i64 ((P.getD i pr0).sb)), (.int .i64 ((P.getD i pr0).sm))] : List Value)) rfl (by kernel_rfl) (by kernel_rfl) (by exact Nat.le_of_ble_eq_true (by kernel_rfl)) (H119.at 4 rfl) (by kernel_rfl)) ?_
        refine wl_do (wants0 rfl) (fun K121 hK121 => ?_)
        refine d_buildSlice (e := 33) (size := 6) (bytes := 64) (z := (.agg ⟨([(.int .i64 (0)), (.int .i64 (0)), (.int .u64 (0)), (.slice none 0 0), (.int .i64 (0)), (.int .i64 (0))] : List Value)⟩)) (pvs := [(0, (.agg ⟨([(.int .i64 ((P.getD i pr0).r)), (.int .i64 ((P.getD i pr0).e)), (.int .u64 ((P.getD i pr0).f)), (.slice ca C.length cc), (.int .i64 ((P.getD i pr0).sb)), (.int .i64 ((P.getD i pr0).sm))] : List Value)⟩))]) (vs := ([(.int .i64 ((P.getD i pr0).r)), (.int .i64 ((P.getD i pr0).e)), (.int .u64 ((P.getD i pr0).f)), (.slice ca C.length cc), (.int .i64 ((P.getD i pr0).sb)), (.int .i64 ((P.getD i pr0).sm))] : List Value)) rfl H119 (by kernel_rfl) (by kernel_rfl) (by kernel_rfl) (by kernel_rfl) (by kernel_rfl) rfl rfl ?_
        intro b122 w123 (H124 : Sat w [restC w (fun _ => False), cellC b2 27 ([(.int .i64 (ep)), (.int .u64 (tm)), (.slice pa P.length pc), (vo), (vt)] : List Value), rowC 33 6 (.slice da D.length dc) D.length (D.flatMap encPr), bagC L2, cellC b25 33 ([(.int .i64 ((P.getD i pr0).r)), (.int .i64 ((P.getD i pr0).e)), (.int .u64 ((P.getD i pr0).f)), (.slice ca C.length cc), (.int .i64 ((P.getD i pr0).sb)), (.int .i64 ((P.getD i pr0).sm))] : List Value), rowC 42 38 (.slice ca C.length cc) C.length (C.flatMap encCe), rowC 33 6 (.slice (some ⟨b122, 0, none⟩) 1 1) 1 ([(.int .i64 ((P.getD i pr0).r)), (.int .i64 ((P.getD i pr0).e)), (.int .u64 ((P.getD i pr0).f)), (.slice ca C.length cc), (.int .i64 ((P.getD i pr0).sb)), (.int .i64 ((P.getD i pr0).sm))] : List Value)] w123)
        have H125 : Sat w [restC w (fun _ => False), cellC b2 27 ([(.int .i64 (ep)), (.int .u64 (tm)), (.slice pa P.length pc), (vo), (vt)] : List Value), rowC 33 6 (.slice da D.length dc) D.length (D.flatMap encPr), bagC L2, cellC b25 33 ([(.int .i64 ((P.getD i pr0).r)), (.int .i64 ((P.getD i pr0).e)), (.int .u64 ((P.getD i pr0).f)), (.slice ca C.length cc), (.int .i64 ((P.getD i pr0).sb)), (.int .i64 ((P.getD i pr0).sm))] : List Value), rowC 42 38 (.slice ca C.length cc) C.length (C.flatMap encCe), rowC 33 6 (.slice (some ⟨b122, 0, none⟩) 1 1) 1 ([(⟨(P.getD i pr0).r, (P.getD i pr0).e, (P.getD i pr0).f, ca, cc, (P.getD i pr0).sb, (P.getD i pr0).sm, C⟩ : PrR)].flatMap encPr)] w123 := H124.cast (by rw [(show (([(.int .i64 ((P.getD i pr0).r)), (.int .i64 ((P.getD i pr0).e)), (.int .u64 ((P.getD i pr0).f)), (.slice ca C.length cc), (.int .i64 ((P.getD i pr0).sb)), (.int .i64 ((P.getD i pr0).sm))] : List Value) : List Value) = [(⟨(P.getD i pr0).r, (P.getD i pr0).e, (P.getD i pr0).f, ca, cc, (P.getD i pr0).sb, (P.getD i pr0).sm, C⟩ : PrR)].flatMap encPr by kernel_rfl)])
        refine hK121 _ _ ?_
        clear hK121 K121
        refine wl_do (wants0 rfl) (fun K126 hK126 => ?_)
        refine d_append (T := 23) (e := 33) (size := 6) (bytes := 64) rfl H125 (by kernel_rfl) 2 6 rfl rfl rfl rfl (flat_one encPr encPr_one [(⟨(P.getD i pr0).r, (P.getD i pr0).e, (P.getD i pr0).f, ca, cc, (P.getD i pr0).sb, (P.getD i pr0).sm, C⟩ : PrR)]) (by omega) (by omega) ?_
        intro v127 w128 (H129 : Sat w [restC w (fun _ => False), cellC b2 27 ([(.int .i64 (ep)), (.int .u64 (tm)), (.slice pa P.length pc), (vo), (vt)] : List Value), rowC 33 6 v127 (D.length + 1) ((D.flatMap encPr) ++ ([(⟨(P.getD i pr0).r, (P.getD i pr0).e, (P.getD i pr0).f, ca, cc, (P.getD i pr0).sb, (P.getD i pr0).sm, C⟩ : PrR)].flatMap encPr)), bagC L2, cellC b25 33 ([(.int .i64 ((P.getD i pr0).r)), (.int .i64 ((P.getD i pr0).e)), (.int .u64 ((P.getD i pr0).f)), (.slice ca C.length cc), (.int .i64 ((P.getD i pr0).sb)), (.int .i64 ((P.getD i pr0).sm))] : List Value), rowC 42 38 (.slice ca C.length cc) C.length (C.flatMap encCe), rowC 33 6 (.slice (some ⟨b122, 0, none⟩) 1 1) 1 ([(⟨(P.getD i pr0).r, (P.getD i pr0).e, (P.getD i pr0).f, ca, cc, (P.getD i pr0).sb, (P.getD i pr0).sm, C⟩ : PrR)].flatMap encPr)] w128)
        have H132 : Sat w [restC w (fun _ => False), cellC b2 27 ([(.int .i64 (ep)), (.int .u64 (tm)), (.slice pa P.length pc), (vo), (vt)] : List Value), rowC 33 6 v127 ((D ++ [(⟨(P.getD i pr0).r, (P.getD i pr0).e, (P.getD i pr0).f, ca, cc, (P.getD i pr0).sb, (P.getD i pr0).sm, C⟩ : PrR)]).length) ((D ++ [(⟨(P.getD i pr0).r, (P.getD i pr0).e, (P.getD i pr0).f, ca, cc, (P.getD i pr0).sb, (P.getD i pr0).sm, C⟩ : PrR)]).flatMap encPr), bagC L2, cellC b25 33 ([(.int .i64 ((P.getD i pr0).r)), (.int .i64 ((P.getD i pr0).e)), (.int .u64 ((P.getD i pr0).f)), (.slice ca C.length cc), (.int .i64 ((P.getD i pr0).sb)), (.int .i64 ((P.getD i pr0).sm))] : List Value), rowC 42 38 (.slice ca C.length cc) C.length (C.flatMap encCe), rowC 33 6 (.slice (some ⟨b122, 0, none⟩) 1 1) 1 ([(⟨(P.getD i pr0).r, (P.getD i pr0).e, (P.getD i pr0).f, ca, cc, (P.getD i pr0).sb, (P.getD i pr0).sm, C⟩ : PrR)].flatMap encPr)] w128 := H129.cast (by simp only [List.length_append, List.flatMap_append] <;> rfl)
        obtain ⟨a130, c131, rfl⟩ := ownsRow_shape (H132.at 2 rfl)
        refine hK126 _ _ ?_
        clear hK126 K126
        refine wl_pure (wants0 rfl) (d := 7) (v := (.slice a130 ((D ++ [(⟨(P.getD i pr0).r, (P.getD i pr0).e, (P.getD i pr0).f, ca, cc, (P.getD i pr0).sb, (P.getD i pr0).sm, C⟩ : PrR)]).length) c131)) rfl (by kernel_rfl) ?_
        refine w_nil ?_
        refine blk_normal ?_
        refine then_normal ?_
        have H133 : Sat w [bagC (ceC (⟨(P.getD i pr0).r, (P.getD i pr0).e, (P.getD i pr0).f, ca, cc, (P.getD i pr0).sb, (P.getD i pr0).sm, C⟩ : PrR) :: L2), restC w (fun _ => False), cellC b2 27 ([(.int .i64 (ep)), (.int .u64 (tm)), (.slice pa P.length pc), (vo), (vt)] : List Value), rowC 33 6 (.slice a130 ((D ++ [(⟨(P.getD i pr0).r, (P.getD i pr0).e, (P.getD i pr0).f, ca, cc, (P.getD i pr0).sb, (P.getD i pr0).sm, C⟩ : PrR)]).length) c131) ((D ++ [(⟨(P.getD i pr0).r, (P.getD i pr0).e, (P.getD i pr0).f, ca, cc, (P.getD i pr0).sb, (P.getD i pr0).sm, C⟩ : PrR)]).length) ((D ++ [(⟨(P.getD i pr0).r, (P.getD i pr0).e, (P.getD i pr0).f, ca, cc, (P.getD i pr0).sb, (P.getD i pr0).sm, C⟩ : PrR)]).flatMap encPr), cellC b25 33 ([(.int .i64 ((P.getD i pr0).r)), (.int .i64 ((P.getD i pr0).e)), (.int .u64 ((P.getD i pr0).f)), (.slice ca C.length cc), (.int .i64 ((P.getD i pr0).sb)), (.int .i64 ((P.getD i pr0).sm))] : List Value), rowC 33 6 (.slice (some ⟨b122, 0, none⟩) 1 1) 1 ([(⟨(P.getD i pr0).r, (P.getD i pr0).e, (P.getD i pr0).f, ca, cc, (P.getD i pr0).sb, (P.getD i pr0).sm, C⟩ : PrR)].flatMap encPr)] w128 := (H132.pick [3, 5, 0, 1, 2, 4, 6] (by decide)).bag
        have H134 : Sat w [restC w (fun _ => False), cellC b2 27 ([(.int .i64 (ep)), (.int .u64 (tm)), (.slice pa P.length pc), (vo), (vt)] : List Value), rowC 33 6 (.slice a130 ((D ++ [(⟨(P.getD i pr0).r, (P.getD i pr0).e, (P.getD i pr0).f, ca, cc, (P.getD i pr0).sb, (P.getD i pr0).sm, C⟩ : PrR)]).length) c131) ((D ++ [(⟨(P.getD i pr0).r, (P.getD i pr0).e, (P.getD i pr0).f, ca, cc, (P.getD i pr0).sb, (P.getD i pr0).sm, C⟩ : PrR)]).length) ((D ++ [(⟨(P.getD i pr0).r, (P.getD i pr0).e, (P.getD i pr0).f, ca, cc, (P.getD i pr0).sb, (P.getD i pr0).sm, C⟩ : PrR)]).flatMap encPr), bagC (ceC (⟨(P.getD i pr0).r, (P.getD i pr0).e, (P.getD i pr0).f, ca, cc, (P.getD i pr0).sb, (P.getD i pr0).sm, C⟩ : PrR) :: L2), cellC b25 33 ([(.int .i64 ((P.getD i pr0).r)), (.int .i64 ((P.getD i pr0).e)), (.int .u64 ((P.getD i pr0).f)), (.slice ca C.length cc), (.int .i64 ((P.getD i pr0).sb)), (.int .i64 ((P.getD i pr0).sm))] : List Value), rowC 33 6 (.slice (some ⟨b122, 0, none⟩) 1 1) 1 ([(⟨(P.getD i pr0).r, (P.getD i pr0).e, (P.getD i pr0).f, ca, cc, (P.getD i pr0).sb, (P.getD i pr0).sm, C⟩ : PrR)].flatMap encPr)] w128 := H133.pick [1, 2, 3, 0, 4, 5] (by decide)
        refine w_lit ?_
        refine wl_pure (wants0 rfl) (d := 26) (v := (.int .i64 ((i : Int)))) rfl (by kernel_rfl) ?_
        refine wl_pure (wants0 rfl) (d := 27) (v := (.int .i64 ((i : Int) + 1))) rfl (e_int (z := (i : Int) + 1) (by kernel_rfl) (IntWalk.i64_in _ (by omega))) ?_
        refine wl_pure (wants0 rfl) (d := 8) (v := (.int .i64 ((i : Int) + 1))) rfl (by kernel_rfl) ?_
        refine w_nil ?_
        have H135 : Sat w [restC w (fun _ => False), cellC b2 27 ([(.int .i64 (ep)), (.int .u64 (tm)), (.slice pa P.length pc), (vo), (vt)] : List Value), rowC 33 6 (.slice a130 ((D ++ [(⟨(P.getD i pr0).r, (P.getD i pr0).e, (P.getD i pr0).f, ca, cc, (P.getD i pr0).sb, (P.getD i pr0).sm, C⟩ : PrR)]).length) c131) ((D ++ [(⟨(P.getD i pr0).r, (P.getD i pr0).e, (P.getD i pr0).f, ca, cc, (P.getD i pr0).sb, (P.getD i pr0).sm, C⟩ : PrR)]).length) ((D ++ [(⟨(P.getD i pr0).r, (P.getD i pr0).e, (P.getD i pr0).f, ca, cc, (P.getD i pr0).sb, (P.getD i pr0).sm, C⟩ : PrR)]).flatMap encPr), bagC (ceC (⟨(P.getD i pr0).r, (P.getD i pr0).e, (P.getD i pr0).f, ca, cc, (P.getD i pr0).sb, (P.getD i pr0).sm, C⟩ : PrR) :: L2)] w128 := H134.pick [0, 1, 2, 3] (by decide)
        refine round_back ?_ _ ⟨(i + 1), a130, c131, (D ++ [(⟨(P.getD i pr0).r, (P.getD i pr0).e, (P.getD i pr0).f, ca, cc, (P.getD i pr0).sb, (P.getD i pr0).sm, C⟩ : PrR)]), (ceC (⟨(P.getD i pr0).r, (P.getD i pr0).e, (P.getD i pr0).f, ca, cc, (P.getD i pr0).sb, (P.getD i pr0).sm, C⟩ : PrR) :: L2), (show ((.int .i64 ((i : Int) + 1)) : Value) = _ by first | rfl | go_num), (show ((.slice a130 ((D ++ [(⟨(P.getD i pr0).r, (P.getD i pr0).e, (P.getD i pr0).f, ca, cc, (P.getD i pr0).sb, (P.getD i pr0).sm, C⟩ : PrR)]).length) c131) : Value) = _ by first | rfl | go_num), (by omega), (by simp only [List.length_append, List.length_cons, List.length_nil]; omega), (psm_new hsm hC), (len_new hD5 (show C.length ≤ 5 by omega)), (pin_new hpn2 hin), H135, rfl⟩ (by omega)
        exact (same_upd rfl (same_upd rfl (same_upd rfl (same_upd rfl (same_upd rfl (same_upd rfl (same_upd rfl (same_upd rfl (same_upd rfl (same_upd rfl (same_upd rfl (same_upd rfl (same_upd rfl (same_upd rfl (same_upd rfl (same_upd rfl (same_upd rfl (same_upd rfl (same_upd rfl (same_upd rfl (same_upd rfl (same_upd rfl (same_ovr2 rfl (same_upd rfl (same_upd rfl (same_upd rfl (same_upd rfl (same_upd rfl (same_upd rfl (same_upd rfl (same_upd rfl (same_upd rfl (same_upd rfl (same_upd rfl (same_upd rfl (same_upd rfl (same_upd rfl (same_upd rfl (same_upd rfl (same_upd rfl (same_upd rfl (same_upd rfl (same_upd rfl (same_upd rfl (same_ovr)))))))))))))))))))))))))))))))))))))))))))))
    · have g136 := of_decide_eq_false b16
      refine wp_know 25 (.bool false) (congrArg Value.bool b16) ?_
      have g137 := of_decide_eq_false b16
      refine wp_iff rfl ?_
      refine w_exit ?_
      refine then_exit ?_
      refine back_exit ?_
      refine blk_hit ?_
      refine then_normal ?_
      refine w_seq ?_
      refine w_lit ?_
      refine wl_pure (wants0 rfl) (d := 69) (v := (.slice da D.length dc)) rfl (by kernel_rfl) ?_
      refine wl_pure (wants0 rfl) (d := 70) (v := (.pointer (some ⟨b2, 2, none⟩))) rfl (by kernel_rfl) ?_
      refine wl_do (wants0 rfl) (fun K138 hK138 => ?_)
      refine d_storeX (vs := ([(.slice da D.length dc)] : List Value)) (cs' := ([(.int .i64 (ep)), (.int .u64 (tm)), (.slice da D.length dc), (vo), (vt)] : List Value)) rfl H9 1 rfl rfl rfl rfl (by kernel_rfl) (Nat.le_of_ble_eq_true (by kernel_rfl)) (Nat.le_of_ble_eq_true (by kernel_rfl)) (by kernel_rfl) (by kernel_rfl) ?_
      intro w139 (H140 : Sat w [restC w (fun _ => False), cellC b2 27 ([(.int .i64 (ep)), (.int .u64 (tm)), (.slice da D.length dc), (vo), (vt)] : List Value), rowC 33 6 (.slice da D.length dc) D.length (D.flatMap encPr), bagC L] w139)
      refine hK138 _ _ ?_
      clear hK138 K138
      refine w_nil ?_
      refine then_normal ?_
      refine w_seq ?_
      refine w_lit ?_
      refine wl_do (wants0 rfl) (fun K142 hK142 => ?_)
      refine d_makeMap nmV Value.bool rfl H140 ?_
      intro b143 w144 (H145 : Sat w [restC w (fun _ => False), cellC b2 27 ([(.int .i64 (ep)), (.int .u64 (tm)), (.slice da D.length dc), (vo), (vt)] : List Value), rowC 33 6 (.slice da D.length dc) D.length (D.flatMap encPr), bagC L, mapC b143 nmV Value.bool []] w144)
      refine hK142 _ _ ?_
      clear hK142 K142
      refine wl_pure (wants0 rfl) (d := 13) (v := (.map (some b143))) rfl (by kernel_rfl) ?_
      refine w_nil ?_
      refine then_normal ?_
      refine w_seq ?_
      refine w_lit ?_
      refine wl_pure (wants0 rfl) (d := 14) (v := (.slice none 0 0)) rfl (by kernel_rfl) ?_
      refine w_nil ?_
      refine then_normal ?_
      refine w_seq ?_
      refine w_seq ?_
      refine w_lit ?_
      refine wl_pure (wants0 rfl) (d := 15) (v := (.int .i64 (0))) rfl (by kernel_rfl) ?_
      refine w_nil ?_
      refine then_normal ?_
      refine w_block ?_
      have H146 := H145.addNil 35 2
      refine wp_round [14, 15, 16, 72, 73, 74, 75, 76, 77, 78, 79, 80, 81, 82, 83, 84, 85, 86, 87, 88, 89, 90, 91, 92] (fun F_ W_ m_ => ∃ (q : Nat) (LM : List (NmD × Bool)) (la : Option Addr) (lc : Nat) (LN : List NmD), F_ 15 = (.int .i64 ((q : Int))) ∧ F_ 14 = (.slice la LN.length lc) ∧ (q ≤ 5) ∧ (LN.length ≤ q) ∧ (lgM LM = fun n => decide (n ∈ LN)) ∧ Sat w [restC w (fun _ => False), cellC b2 27 ([(.int .i64 (ep)), (.int .u64 (tm)), (.slice da D.length dc), (vo), (vt)] : List Value), rowC 33 6 (.slice da D.length dc) D.length (D.flatMap encPr), bagC L, mapC b143 nmV Value.bool LM, rowC 35 2 (.slice la LN.length lc) LN.length (LN.flatMap encNm)] W_ ∧ m_ = 5 - q) _ ⟨0, [], none, 0, [], (show ((.int .i64 (0)) : Value) = _ by first | rfl | go_num), (by first | rfl | go_num), (Nat.zero_le _), (Nat.le_refl _), (funext fun n => by simp [lgM, lookM]), H146, rfl⟩ ?_
      rintro g147 w148 _ ⟨q, LM, la, lc, LN, v150, v151, hq, hLl, hlg, H149, rfl⟩
      refine wp_know 15 _ v150 ?_
      refine wp_know 14 _ v151 ?_
      refine w_seq ?_
      refine w_seq ?_
      refine w_lit ?_
      refine wl_pure (wants0 rfl) (d := 72) (v := (.int .i64 ((q : Int)))) rfl (by kernel_rfl) ?_
      refine wl_pure (wants0 rfl) (d := 73) (v := (.slice na N.length nc)) rfl (by kernel_rfl) ?_
      refine wl_pure (wants0 rfl) (d := 74) (v := (.int .i64 ((N.length : Int)))) rfl (by kernel_rfl) ?_
      refine wl_pure (wants0 rfl) (d := 75) (v := (.bool (decide ((q : Int) < (N.length : Int))))) rfl (by kernel_rfl) ?_
      refine wl_pure (wants0 rfl) (d := 76) (v := (.bool (decide ((q : Int) < (N.length : Int))))) rfl (by kernel_rfl) ?_
      refine (bsplit (decide ((q : Int) < (N.length : Int)))).elim (fun b153 => ?_) (fun b153 => ?_)
      · have g154 := of_decide_eq_true b153
        refine wl_know 76 (.bool true) (congrArg Value.bool b153) ?_
        have g155 := of_decide_eq_true b153
        refine wl_pure (wantsY 4 76 true rfl (by kernel_rfl) rfl (by kernel_rfl)) (d := 77) (v := (.int .i64 ((q : Int)))) rfl (by kernel_rfl) ?_
        refine wl_pure (wantsY 4 76 true rfl (by kernel_rfl) rfl (by kernel_rfl)) (d := 78) (v := (.bool (decide ((q : Int) < 5)))) rfl (by kernel_rfl) ?_
        refine wl_pure (wants0 rfl) (d := 79) (v := (.bool (decide ((q : Int) < 5)))) rfl (by kernel_rfl) ?_
        refine w_nil ?_
        refine then_normal ?_
        refine (bsplit (decide ((q : Int) < 5))).elim (fun b156 => ?_) (fun b156 => ?_)
        · have g157 := of_decide_eq_true b156
          refine wp_know 79 (.bool true) (congrArg Value.bool b156) ?_
          have g158 := of_decide_eq_true b156
          refine wp_ift rfl ?_
          refine w_skip ?_
          refine then_normal ?_
          refine w_seq ?_
          refine w_block ?_
          refine w_seq ?_
          refine w_lit ?_
          refine wl_pure (wants0 rfl) (d := 82) (v := (.slice na N.length nc)) rfl (by kernel_rfl) ?_
          refine wl_pure (wants0 rfl) (d := 83) (v := (.int .i64 ((q : Int)))) rfl (by kernel_rfl) ?_
          obtain ⟨g159, o160, c161, e162, R163⟩ := SliceOf.atD hN nm0 (show q < N.length by omega)
          refine wl_pure (wants0 rfl) (d := 84) (v := (.pointer (some ⟨g159, o160 + ((q : Int)).toNat * 2, none⟩))) rfl (e_indexAddrW (E := 35) (by kernel_rfl) (by kernel_rfl) (Nat.le_of_ble_eq_true rfl) rfl e162 rfl (by omega) (by omega)) ?_
          refine wl_pure (wants0 rfl) (d := 85) (v := (.agg ⟨([(.int .i64 ((N.getD q nm0).cl)), (.int .i64 ((N.getD q nm0).sq))] : List Value)⟩)) rfl (e_loadRun (vs := ([(.int .i64 ((N.getD q nm0).cl)), (.int .i64 ((N.getD q nm0).sq))] : List Value)) rfl (by kernel_rfl) (by kernel_rfl) (Nat.le_of_ble_eq_true (by kernel_rfl)) (H149.runR 0 rfl (cells_run R163 0 (by kernel_rfl) (show o160 + ((q : Int)).toNat * 2 = o160 + q * 2 + 0 by omega)) (fun h => h))) ?_
          refine wl_do (wants0 rfl) (fun K164 hK164 => ?_)
          refine d_call (d := 86) rfl (by kernel_rfl) (small_any w148 ((N.getD q nm0).cl) ((N.getD q nm0).sq)) ?_
          rintro _ w165 ⟨rfl, u167⟩
          have H166 := H149.keepU u167
          refine ⟨_, rfl, ?_⟩
          refine hK164 _ _ ?_
          clear hK164 K164
          refine wl_do (wants0 rfl) (fun K168 hK168 => ?_)
          refine d_alloc (zs := ([(.int .i64 (0)), (.int .i64 (0))] : List Value)) (z := (.agg ⟨([(.int .i64 (0)), (.int .i64 (0))] : List Value)⟩)) rfl H166 (by kernel_rfl) (by kernel_rfl) ?_
          intro b169 w170 (H171 : Sat w [restC w (fun _ => False), cellC b2 27 ([(.int .i64 (ep)), (.int .u64 (tm)), (.slice da D.length dc), (vo), (vt)] : List Value), rowC 33 6 (.slice da D.length dc) D.length (D.flatMap encPr), bagC L, mapC b143 nmV Value.bool LM, rowC 35 2 (.slice la LN.length lc) LN.length (LN.flatMap encNm), cellC b169 35 ([(.int .i64 (0)), (.int .i64 (0))] : List Value)] w170)
          refine hK168 _ _ ?_
          clear hK168 K168
          refine wl_do (wants0 rfl) (fun K172 hK172 => ?_)
          refine d_storeX (vs := ([(.int .i64 (withinV ((N.getD q nm0).cl) 3)), (.int .i64 (1 + withinV ((N.getD q nm0).sq) 4))] : List Value)) (cs' := ([(.int .i64 (withinV ((N.getD q nm0).cl) 3)), (.int .i64 (1 + withinV ((N.getD q nm0).sq) 4))] : List Value)) rfl H171 6 rfl rfl rfl rfl (by kernel_rfl) (Nat.le_of_ble_eq_true (by kernel_rfl)) (Nat.le_of_ble_eq_true (by kernel_rfl)) (by kernel_rfl) (by kernel_rfl) ?_
          intro w173 (H174 : Sat w [restC w (fun _ => False), cellC b2 27 ([(.int .i64 (ep)), (.int .u64 (tm)), (.slice da D.length dc), (vo), (vt)] : List Value), rowC 33 6 (.slice da D.length dc) D.length (D.flatMap encPr), bagC L, mapC b143 nmV Value.bool LM, rowC 35 2 (.slice la LN.length lc) LN.length (LN.flatMap encNm), cellC b169 35 ([(.int .i64 (withinV ((N.getD q nm0).cl) 3)), (.int .i64 (1 + withinV ((N.getD q nm0).sq) 4))] : List Value)] w173)
          refine hK172 _ _ ?_
          clear hK172 K172
          refine w_nil ?_
          refine then_normal ?_
          refine w_seq ?_
          refine w_lit ?_
          refine wl_pure (wants0 rfl) (d := 87) (v := (.map (some b143))) rfl (by kernel_rfl) ?_
          refine wl_pure (wants0 rfl) (d := 88) (v := (.agg ⟨([(.int .i64 (withinV ((N.getD q nm0).cl) 3)), (.int .i64 (1 + withinV ((N.getD q nm0).sq) 4))] : List Value)⟩)) rfl (e_loadN (vs := ([(.int .i64 (withinV ((N.getD q nm0).cl) 3)), (.int .i64 (1 + withinV ((N.getD q nm0).sq) 4))] : List Value)) rfl (by kernel_rfl) (by kernel_rfl) (by exact Nat.le_of_ble_eq_true (by kernel_rfl)) (H174.at 6 rfl) (by kernel_rfl)) ?_
          refine wl_do (wants0 rfl) (fun K176 hK176 => ?_)
          refine d_mapUpdate (kt := 35) (et := 4) rfl H174 4 rfl nmK (by kernel_rfl) rfl (⟨withinV ((N.getD q nm0).cl) 3, 1 + withinV ((N.getD q nm0).sq) 4⟩ : NmD) rfl true rfl ?_
          intro w177 (H178 : Sat w [restC w (fun _ => False), cellC b2 27 ([(.int .i64 (ep)), (.int .u64 (tm)), (.slice da D.length dc), (vo), (vt)] : List Value), rowC 33 6 (.slice da D.length dc) D.length (D.flatMap encPr), bagC L, mapC b143 nmV Value.bool (putM LM (⟨withinV ((N.getD q nm0).cl) 3, 1 + withinV ((N.getD q nm0).sq) 4⟩ : NmD) true), rowC 35 2 (.slice la LN.length lc) LN.length (LN.flatMap encNm), cellC b169 35 ([(.int .i64 (withinV ((N.getD q nm0).cl) 3)), (.int .i64 (1 + withinV ((N.getD q nm0).sq) 4))] : List Value)] w177)
          refine hK176 _ _ ?_
          clear hK176 K176
          refine w_nil ?_
          refine then_normal ?_
          refine w_lit ?_
          refine wl_pure (wants0 rfl) (d := 89) (v := (.slice la LN.length lc)) rfl (by kernel_rfl) ?_
          refine wl_pure (wants0 rfl) (d := 90) (v := (.agg ⟨([(.int .i64 (withinV ((N.getD q nm0).cl) 3)), (.int .i64 (1 + withinV ((N.getD q nm0).sq) 4))] : List Value)⟩)) rfl (e_loadN (vs := ([(.int .i64 (withinV ((N.getD q nm0).cl) 3)), (.int .i64 (1 + withinV ((N.getD q nm0).sq) 4))] : List Value)) rfl (by kernel_rfl) (by kernel_rfl) (by exact Nat.le_of_ble_eq_true (by kernel_rfl)) (H178.at 6 rfl) (by kernel_rfl)) ?_
          refine wl_do (wants0 rfl) (fun K179 hK179 => ?_)
          refine d_buildSlice (e := 35) (size := 2) (bytes := 16) (z := (.agg ⟨([(.int .i64 (0)), (.int .i64 (0))] : List Value)⟩)) (pvs := [(0, (.agg ⟨([(.int .i64 (withinV ((N.getD q nm0).cl) 3)), (.int .i64 (1 + withinV ((N.getD q nm0).sq) 4))] : List Value)⟩))]) (vs := ([(.int .i64 (withinV ((N.getD q nm0).cl) 3)), (.int .i64 (1 + withinV ((N.getD q nm0).sq) 4))] : List Value)) rfl H178 (by kernel_rfl) (by kernel_rfl) (by kernel_rfl) (by kernel_rfl) (by kernel_rfl) rfl rfl ?_
          intro b180 w181 (H182 : Sat w [restC w (fun _ => False), cellC b2 27 ([(.int .i64 (ep)), (.int .u64 (tm)), (.slice da D.length dc), (vo), (vt)] : List Value), rowC 33 6 (.slice da D.length dc) D.length (D.flatMap encPr), bagC L, mapC b143 nmV Value.bool (putM LM (⟨withinV ((N.getD q nm0).cl) 3, 1 + withinV ((N.getD q nm0).sq) 4⟩ : NmD) true), rowC 35 2 (.slice la LN.length lc) LN.length (LN.flatMap encNm), cellC b169 35 ([(.int .i64 (withinV ((N.getD q nm0).cl) 3)), (.int .i64 (1 + withinV ((N.getD q nm0).sq) 4))] : List Value), rowC 35 2 (.slice (some ⟨b180, 0, none⟩) 1 1) 1 ([(.int .i64 (withinV ((N.getD q nm0).cl) 3)), (.int .i64 (1 + withinV ((N.getD q nm0).sq) 4))] : List Value)] w181)
          have H183 : Sat w [restC w (fun _ => False), cellC b2 27 ([(.int .i64 (ep)), (.int .u64 (tm)), (.slice da D.length dc), (vo), (vt)] : List Value), rowC 33 6 (.slice da D.length dc) D.length (D.flatMap encPr), bagC L, mapC b143 nmV Value.bool (putM LM (⟨withinV ((N.getD q nm0).cl) 3, 1 + withinV ((N.getD q nm0).sq) 4⟩ : NmD) true), rowC 35 2 (.slice la LN.length lc) LN.length (LN.flatMap encNm), cellC b169 35 ([(.int .i64 (withinV ((N.getD q nm0).cl) 3)), (.int .i64 (1 + withinV ((N.getD q nm0).sq) 4))] : List Value), rowC 35 2 (.slice (some ⟨b180, 0, none⟩) 1 1) 1 ([(⟨withinV ((N.getD q nm0).cl) 3, 1 + withinV ((N.getD q nm0).sq) 4⟩ : NmD)].flatMap encNm)] w181 := H182.cast (by rw [(show (([(.int .i64 (withinV ((N.getD q nm0).cl) 3)), (.int .i64 (1 + withinV ((N.getD q nm0).sq) 4))] : List Value) : List Value) = [(⟨withinV ((N.getD q nm0).cl) 3, 1 + withinV ((N.getD q nm0).sq) 4⟩ : NmD)].flatMap encNm by kernel_rfl)])
          refine hK179 _ _ ?_
          clear hK179 K179
          refine wl_do (wants0 rfl) (fun K184 hK184 => ?_)
          refine d_append (T := 28) (e := 35) (size := 2) (bytes := 16) rfl H183 (by kernel_rfl) 5 7 rfl rfl rfl rfl (flat_one encNm encNm_one [(⟨withinV ((N.getD q nm0).cl) 3, 1 + withinV ((N.getD q nm0).sq) 4⟩ : NmD)]) (by omega) (by omega) ?_
          intro v185 w186 (H187 : Sat w [restC w (fun _ => False), cellC b2 27 ([(.int .i64 (ep)), (.int .u64 (tm)), (.slice da D.length dc), (vo), (vt)] : List Value), rowC 33 6 (.slice da D.length dc) D.length (D.flatMap encPr), bagC L, mapC b143 nmV Value.bool (putM LM (⟨withinV ((N.getD q nm0).cl) 3, 1 + withinV ((N.getD q nm0).sq) 4⟩ : NmD) true), rowC 35 2 v185 (LN.length + 1) ((LN.flatMap encNm) ++ ([(⟨withinV ((N.getD q nm0).cl) 3, 1 + withinV ((N.getD q nm0).sq) 4⟩ : NmD)].flatMap encNm)), cellC b169 35 ([(.int .i64 (withinV ((N.getD q nm0).cl) 3)), (.int .i64 (1 + withinV ((N.getD q nm0).sq) 4))] : List Value), rowC 35 2 (.slice (some ⟨b180, 0, none⟩) 1 1) 1 ([(⟨withinV ((N.getD q nm0).cl) 3, 1 + withinV ((N.getD q nm0).sq) 4⟩ : NmD)].flatMap encNm)] w186)
          have H190 : Sat w [restC w (fun _ => False), cellC b2 27 ([(.int .i64 (ep)), (.int .u64 (tm)), (.slice da D.length dc), (vo), (vt)] : List Value), rowC 33 6 (.slice da D.length dc) D.length (D.flatMap encPr), bagC L, mapC b143 nmV Value.bool (putM LM (⟨withinV ((N.getD q nm0).cl) 3, 1 + withinV ((N.getD q nm0).sq) 4⟩ : NmD) true), rowC 35 2 v185 ((LN ++ [(⟨withinV ((N.getD q nm0).cl) 3, 1 + withinV ((N.getD q nm0).sq) 4⟩ : NmD)]).length) ((LN ++ [(⟨withinV ((N.getD q nm0).cl) 3, 1 + withinV ((N.getD q nm0).sq) 4⟩ : NmD)]).flatMap encNm), cellC b169 35 ([(.int .i64 (withinV ((N.getD q nm0).cl) 3)), (.int .i64 (1 + withinV ((N.getD q nm0).sq) 4))] : List Value), rowC 35 2 (.slice (some ⟨b180, 0, none⟩) 1 1) 1 ([(⟨withinV ((N.getD q nm0).cl) 3, 1 + withinV ((N.getD q nm0).sq) 4⟩ : NmD)].flatMap encNm)] w186 := H187.cast (by simp only [List.length_append, List.flatMap_append] <;> rfl)
          obtain ⟨a188, c189, rfl⟩ := ownsRow_shape (H190.at 5 rfl)
          refine hK184 _ _ ?_
          clear hK184 K184
          refine wl_pure (wants0 rfl) (d := 14) (v := (.slice a188 ((LN ++ [(⟨withinV ((N.getD q nm0).cl) 3, 1 + withinV ((N.getD q nm0).sq) 4⟩ : NmD)]).length) c189)) rfl (by kernel_rfl) ?_
          refine w_nil ?_
          refine blk_normal ?_
          refine then_normal ?_
          refine w_lit ?_
          refine wl_pure (wants0 rfl) (d := 80) (v := (.int .i64 ((q : Int)))) rfl (by kernel_rfl) ?_
          refine wl_pure (wants0 rfl) (d := 81) (v := (.int .i64 ((q : Int) + 1))) rfl (e_int (z := (q : Int) + 1) (by kernel_rfl) (IntWalk.i64_in _ (by omega))) ?_
          refine wl_pure (wants0 rfl) (d := 15) (v := (.int .i64 ((q : Int) + 1))) rfl (by kernel_rfl) ?_
          refine w_nil ?_
          have H191 : Sat w [restC w (fun _ => False), cellC b2 27 ([(.int .i64 (ep)), (.int .u64 (tm)), (.slice da D.length dc), (vo), (vt)] : List Value), rowC 33 6 (.slice da D.length dc) D.length (D.flatMap encPr), bagC L, mapC b143 nmV Value.bool (putM LM (⟨withinV ((N.getD q nm0).cl) 3, 1 + withinV ((N.getD q nm0).sq) 4⟩ : NmD) true), rowC 35 2 (.slice a188 ((LN ++ [(⟨withinV ((N.getD q nm0).cl) 3, 1 + withinV ((N.getD q nm0).sq) 4⟩ : NmD)]).length) c189) ((LN ++ [(⟨withinV ((N.getD q nm0).cl) 3, 1 + withinV ((N.getD q nm0).sq) 4⟩ : NmD)]).length) ((LN ++ [(⟨withinV ((N.getD q nm0).cl) 3, 1 + withinV ((N.getD q nm0).sq) 4⟩ : NmD)]).flatMap encNm)] w186 := H190.pick [0, 1, 2, 3, 4, 5] (by decide)
          refine round_back ?_ _ ⟨(q + 1), (putM LM (⟨withinV ((N.getD q nm0).cl) 3, 1 + withinV ((N.getD q nm0).sq) 4⟩ : NmD) true), a188, c189, (LN ++ [(⟨withinV ((N.getD q nm0).cl) 3, 1 + withinV ((N.getD q nm0).sq) 4⟩ : NmD)]), (show ((.int .i64 ((q : Int) + 1)) : Value) = _ by first | rfl | go_num), (show ((.slice a188 ((LN ++ [(⟨withinV ((N.getD q nm0).cl) 3, 1 + withinV ((N.getD q nm0).sq) 4⟩ : NmD)]).length) c189) : Value) = _ by first | rfl | go_num), (by omega), (by simp only [List.length_append, List.length_cons, List.length_nil]; omega), (lg_put hlg _), H191, rfl⟩ (by omega)
          exact (same_upd rfl (same_upd rfl (same_upd rfl (same_upd rfl (same_upd rfl (same_upd rfl (same_upd rfl (same_upd rfl (same_upd rfl (same_upd rfl (same_upd rfl (same_upd rfl (same_upd rfl (same_upd rfl (same_upd rfl (same_upd rfl (same_upd rfl (same_upd rfl (same_upd rfl (same_upd rfl (same_upd rfl (same_upd rfl (same_upd rfl (same_upd rfl (same_upd rfl (same_upd rfl (same_upd rfl (same_upd rfl (same_ovr)))))))))))))))))))))))))))))
        · have g192 := of_decide_eq_false b156
          refine wp_know 79 (.bool false) (congrArg Value.bool b156) ?_
          have g193 := of_decide_eq_false b156
          refine wp_iff rfl ?_
          refine w_exit ?_
          refine then_exit ?_
          refine back_exit ?_
          refine blk_hit ?_
          refine then_normal ?_
          refine w_seq ?_
          refine h_start H149 [restC w (fun _ => False), cellC b2 27 ([(.int .i64 (ep)), (.int .u64 (tm)), (.slice da D.length dc), (vo), (vt)] : List Value), rowC 33 6 (.slice da D.length dc) D.length (D.flatMap encPr), bagC L, mapC b143 nmV Value.bool LM, rowC 35 2 (.slice la LN.length lc) LN.length (LN.flatMap encNm)] 13 rfl (by kernel_rfl) (fun Hx => (Hx.pick [0, 1, 2, 3, 4, 5] (by decide))) ?_
          intro w194 H195 S196
          refine h_val 0 rfl (by kernel_rfl) (by kernel_rfl) (by kernel_rfl) (fun _ _ _ h => h) S196 (wants0 rfl) (d := 93) (v := (.int .u64 (last))) rfl (fun _ H' => (by kernel_rfl)) ?_
          refine h_val 1 rfl (by kernel_rfl) (by kernel_rfl) (by kernel_rfl) (fun _ _ _ h => h) S196 (wants0 rfl) (d := 94) (v := (.map (some b143))) rfl (fun _ H' => (by kernel_rfl)) ?_
          refine h_val 2 rfl (by kernel_rfl) (by kernel_rfl) (by kernel_rfl) (fun _ _ _ h => h) S196 (wants0 rfl) (d := 95) (v := (.agg ⟨([(.int .i64 (ep)), (.int .u64 (tm)), (.slice da D.length dc), (vo), (vt)] : List Value)⟩)) rfl (fun _ H' => (e_loadN (vs := ([(.int .i64 (ep)), (.int .u64 (tm)), (.slice da D.length dc), (vo), (vt)] : List Value)) rfl (by kernel_rfl) (by kernel_rfl) (by exact Nat.le_of_ble_eq_true (by kernel_rfl)) (H'.at 1 rfl) (by kernel_rfl))) ?_
          refine h_val 4 rfl (by kernel_rfl) (by kernel_rfl) (by kernel_rfl) (fun _ _ _ h => h) S196 (wants0 rfl) (d := 97) (v := (.int .u64 (last))) rfl (fun _ H' => (by kernel_rfl)) ?_
          refine h_val 5 rfl (by kernel_rfl) (by kernel_rfl) (by kernel_rfl) (fun _ _ _ h => h) S196 (wants0 rfl) (d := 98) (v := (.slice la LN.length lc)) rfl (fun _ H' => (by kernel_rfl)) ?_
          refine h_val 6 rfl (by kernel_rfl) (by kernel_rfl) (by kernel_rfl) (fun _ _ _ h => h) S196 (wants0 rfl) (d := 99) (v := (.agg ⟨([(.int .i64 (ep)), (.int .u64 (tm)), (.slice da D.length dc), (vo), (vt)] : List Value)⟩)) rfl (fun _ H' => (e_loadN (vs := ([(.int .i64 (ep)), (.int .u64 (tm)), (.slice da D.length dc), (vo), (vt)] : List Value)) rfl (by kernel_rfl) (by kernel_rfl) (by exact Nat.le_of_ble_eq_true (by kernel_rfl)) (H'.at 1 rfl) (by kernel_rfl))) ?_
          refine h_do 3 rfl (by kernel_rfl) (wants0 rfl) (fun K197 hK197 => ?_)
          refine d_call (d := 96) rfl (by kernel_rfl) (wEntries_any w194 last tm ep (vo) (vt) b143 LM (H195.at 4 rfl) da dc D (ListAt.row encPr_len (by decide) (H195.at 2 rfl)) (fun i hi => (hpn _ (getD_memP hi)).ok (H195.at 3 rfl)) hsm (by omega) (fun i hi => by have q := hD5 _ (getD_memP hi); omega)) ?_
          rintro _ w198 ⟨a199, c200, O201, rfl, p202, s203, k204, u205, f206⟩
          have H207 : Sat w [restC w (fun _ => False), cellC b2 27 ([(.int .i64 (ep)), (.int .u64 (tm)), (.slice da D.length dc), (vo), (vt)] : List Value), rowC 33 6 (.slice da D.length dc) D.length (D.flatMap encPr), bagC L, mapC b143 nmV Value.bool LM, rowC 35 2 (.slice la LN.length lc) LN.length (LN.flatMap encNm), rowC 50 35 (.slice a199 O201.length c200) O201.length (O201.flatMap encEn)] w198 := H195.addU u205 k204 f206
          have hlO201 := out_lim hsm.all p202
          refine ⟨_, rfl, ?_⟩
          have S208 := H207.pick [0, 1, 2, 3, 4, 5] (by decide)
          refine hK197 _ _ S208 ?_
          clear hK197 K197
          refine h_do 7 rfl (by kernel_rfl) (wants0 rfl) (fun K209 hK209 => ?_)
          refine d_call (d := 100) rfl (by kernel_rfl) (rEntries_any w198 last tm ep (vo) (vt) la lc LN (ListAt.row (enc := encNm) (sz := 2) encNm_len (by decide) (H207.at 5 rfl)) (by omega) da dc D (ListAt.row encPr_len (by decide) (H207.at 2 rfl)) (fun i hi => (hpn _ (getD_memP hi)).ok (H207.at 3 rfl)) hsm (by omega) (fun i hi => by have q := hD5 _ (getD_memP hi); omega)) ?_
          rintro _ w210 ⟨a211, c212, O213, rfl, p214, s215, k216, u217, f218⟩
          have H219 : Sat w [restC w (fun _ => False), cellC b2 27 ([(.int .i64 (ep)), (.int .u64 (tm)), (.slice da D.length dc), (vo), (vt)] : List Value), rowC 33 6 (.slice da D.length dc) D.length (D.flatMap encPr), bagC L, mapC b143 nmV Value.bool LM, rowC 35 2 (.slice la LN.length lc) LN.length (LN.flatMap encNm), rowC 50 35 (.slice a199 O201.length c200) O201.length (O201.flatMap encEn), rowC 50 35 (.slice a211 O213.length c212) O213.length (O213.flatMap encEn)] w210 := H207.addU u217 k216 f218
          have hlO213 := out_lim hsm.all p214
          refine ⟨_, rfl, ?_⟩
          have hsame : O201 = O213 := same_out hlg hsm.all p202 s203 p214 s215
          have S220 := H219.pick [0, 1, 2, 3, 4, 5] (by decide)
          refine hK209 _ _ S220 ?_
          clear hK209 K209
          refine h_do 8 rfl (by kernel_rfl) (wants0 rfl) (fun K221 hK221 => ?_)
          refine d_call (d := 101) rfl (by kernel_rfl) (sameE_any w210 a199 c200 O201 (ListAt.row encEn_len (by decide) (H219.at 6 rfl)) (by omega) a211 c212 O213 (ListAt.row encEn_len (by decide) (H219.at 7 rfl))) ?_
          rintro _ w222 ⟨rfl, u224⟩
          have H223 := H219.keepU u224
          refine ⟨_, rfl, ?_⟩
          have S225 := H223.pick [0, 1, 2, 3, 4, 5] (by decide)
          refine hK221 _ _ S225 ?_
          clear hK221 K221
          refine h_val 9 rfl (by kernel_rfl) (by kernel_rfl) (by kernel_rfl) (fun _ _ _ h => h) S225 (wants0 rfl) (d := 102) (v := (.bool (decide (O201 = O213)))) rfl (fun _ H' => (by kernel_rfl)) ?_
          have b226 : (decide (O201 = O213)) = true := by exact decide_eq_true hsame
          refine h_know 102 (.bool true) (congrArg Value.bool b226) ?_
          refine h_do 10 rfl (by kernel_rfl) (wantsY 9 102 true rfl (by kernel_rfl) rfl (by kernel_rfl)) (fun K227 hK227 => ?_)
          refine d_call (d := 103) rfl (by kernel_rfl) (wakes_any w222) ?_
          rintro _ w228 ⟨rfl, u230⟩
          have H229 := H223.keepU u230
          refine ⟨_, rfl, ?_⟩
          have S231 := H229.pick [0, 1, 2, 3, 4, 5] (by decide)
          refine hK227 _ _ S231 ?_
          clear hK227 K227
          refine h_val 11 rfl (by kernel_rfl) (by kernel_rfl) (by kernel_rfl) (fun _ _ _ h => h) S231 (wants0 rfl) (d := 104) (v := (.bool true)) rfl (fun _ H' => (by kernel_rfl)) ?_
          refine h_val 12 rfl (by kernel_rfl) (by kernel_rfl) (by kernel_rfl) (fun _ _ _ h => h) S231 (wants0 rfl) (d := 6) (v := (.bool true)) rfl (fun _ H' => (by kernel_rfl)) ?_
          refine h_fin (by kernel_rfl) ?_
          refine then_normal ?_
          refine w_ret ?_
          refine end1 rfl (res_tmp (v := (.bool true)) rfl) ?_
          exact ⟨rfl, H229.upd 0 rfl [] (fun _ h => h.elim)⟩
      · have g232 := of_decide_eq_false b153
        refine wl_know 76 (.bool false) (congrArg Value.bool b153) ?_
        have g233 := of_decide_eq_false b153
        refine wl_pass (wantsN 4 76 true rfl (by kernel_rfl) rfl (by kernel_rfl)) rfl ?_
        refine wl_pass (wantsN 4 76 true rfl (by kernel_rfl) rfl (by kernel_rfl)) rfl ?_
        refine wl_pure (wants0 rfl) (d := 79) (v := (.bool false)) rfl (by kernel_rfl) ?_
        refine w_nil ?_
        refine then_normal ?_
        refine wp_iff rfl ?_
        refine w_exit ?_
        refine then_exit ?_
        refine back_exit ?_
        refine blk_hit ?_
        refine then_normal ?_
        refine w_seq ?_
        refine h_start H149 [restC w (fun _ => False), cellC b2 27 ([(.int .i64 (ep)), (.int .u64 (tm)), (.slice da D.length dc), (vo), (vt)] : List Value), rowC 33 6 (.slice da D.length dc) D.length (D.flatMap encPr), bagC L, mapC b143 nmV Value.bool LM, rowC 35 2 (.slice la LN.length lc) LN.length (LN.flatMap encNm)] 13 rfl (by kernel_rfl) (fun Hx => (Hx.pick [0, 1, 2, 3, 4, 5] (by decide))) ?_
        intro w234 H235 S236
        refine h_val 0 rfl (by kernel_rfl) (by kernel_rfl) (by kernel_rfl) (fun _ _ _ h => h) S236 (wants0 rfl) (d := 93) (v := (.int .u64 (last))) rfl (fun _ H' => (by kernel_rfl)) ?_
        refine h_val 1 rfl (by kernel_rfl) (by kernel_rfl) (by kernel_rfl) (fun _ _ _ h => h) S236 (wants0 rfl) (d := 94) (v := (.map (some b143))) rfl (fun _ H' => (by kernel_rfl)) ?_
        refine h_val 2 rfl (by kernel_rfl) (by kernel_rfl) (by kernel_rfl) (fun _ _ _ h => h) S236 (wants0 rfl) (d := 95) (v := (.agg ⟨([(.int .i64 (ep)), (.int .u64 (tm)), (.slice da D.length dc), (vo), (vt)] : List Value)⟩)) rfl (fun _ H' => (e_loadN (vs := ([(.int .i64 (ep)), (.int .u64 (tm)), (.slice da D.length dc), (vo), (vt)] : List Value)) rfl (by kernel_rfl) (by kernel_rfl) (by exact Nat.le_of_ble_eq_true (by kernel_rfl)) (H'.at 1 rfl) (by kernel_rfl))) ?_
        refine h_val 4 rfl (by kernel_rfl) (by kernel_rfl) (by kernel_rfl) (fun _ _ _ h => h) S236 (wants0 rfl) (d := 97) (v := (.int .u64 (last))) rfl (fun _ H' => (by kernel_rfl)) ?_
        refine h_val 5 rfl (by kernel_rfl) (by kernel_rfl) (by kernel_rfl) (fun _ _ _ h => h) S236 (wants0 rfl) (d := 98) (v := (.slice la LN.length lc)) rfl (fun _ H' => (by kernel_rfl)) ?_
        refine h_val 6 rfl (by kernel_rfl) (by kernel_rfl) (by kernel_rfl) (fun _ _ _ h => h) S236 (wants0 rfl) (d := 99) (v := (.agg ⟨([(.int .i64 (ep)), (.int .u64 (tm)), (.slice da D.length dc), (vo), (vt)] : List Value)⟩)) rfl (fun _ H' => (e_loadN (vs := ([(.int .i64 (ep)), (.int .u64 (tm)), (.slice da D.length dc), (vo), (vt)] : List Value)) rfl (by kernel_rfl) (by kernel_rfl) (by exact Nat.le_of_ble_eq_true (by kernel_rfl)) (H'.at 1 rfl) (by kernel_rfl))) ?_
        refine h_do 3 rfl (by kernel_rfl) (wants0 rfl) (fun K237 hK237 => ?_)
        refine d_call (d := 96) rfl (by kernel_rfl) (wEntries_any w234 last tm ep (vo) (vt) b143 LM (H235.at 4 rfl) da dc D (ListAt.row encPr_len (by decide) (H235.at 2 rfl)) (fun i hi => (hpn _ (getD_memP hi)).ok (H235.at 3 rfl)) hsm (by omega) (fun i hi => by have q := hD5 _ (getD_memP hi); omega)) ?_
        rintro _ w238 ⟨a239, c240, O241, rfl, p242, s243, k244, u245, f246⟩
        have H247 : Sat w [restC w (fun _ => False), cellC b2 27 ([(.int .i64 (ep)), (.int .u64 (tm)), (.slice da D.length dc), (vo), (vt)] : List Value), rowC 33 6 (.slice da D.length dc) D.length (D.flatMap encPr), bagC L, mapC b143 nmV Value.bool LM, rowC 35 2 (.slice la LN.length lc) LN.length (LN.flatMap encNm), rowC 50 35 (.slice a239 O241.length c240) O241.length (O241.flatMap encEn)] w238 := H235.addU u245 k244 f246
        have hlO241 := out_lim hsm.all p242
        refine ⟨_, rfl, ?_⟩
        have S248 := H247.pick [0, 1, 2, 3, 4, 5] (by decide)
        refine hK237 _ _ S248 ?_
        clear hK237 K237
        refine h_do 7 rfl (by kernel_rfl) (wants0 rfl) (fun K249 hK249 => ?_)
        refine d_call (d := 100) rfl (by kernel_rfl) (rEntries_any w238 last tm ep (vo) (vt) la lc LN (ListAt.row (enc := encNm) (sz := 2) encNm_len (by decide) (H247.at 5 rfl)) (by omega) da dc D (ListAt.row encPr_len (by decide) (H247.at 2 rfl)) (fun i hi => (hpn _ (getD_memP hi)).ok (H247.at 3 rfl)) hsm (by omega) (fun i hi => by have q := hD5 _ (getD_memP hi); omega)) ?_
        rintro _ w250 ⟨a251, c252, O253, rfl, p254, s255, k256, u257, f258⟩
        have H259 : Sat w [restC w (fun _ => False), cellC b2 27 ([(.int .i64 (ep)), (.int .u64 (tm)), (.slice da D.length dc), (vo), (vt)] : List Value), rowC 33 6 (.slice da D.length dc) D.length (D.flatMap encPr), bagC L, mapC b143 nmV Value.bool LM, rowC 35 2 (.slice la LN.length lc) LN.length (LN.flatMap encNm), rowC 50 35 (.slice a239 O241.length c240) O241.length (O241.flatMap encEn), rowC 50 35 (.slice a251 O253.length c252) O253.length (O253.flatMap encEn)] w250 := H247.addU u257 k256 f258
        have hlO253 := out_lim hsm.all p254
        refine ⟨_, rfl, ?_⟩
        have hsame : O241 = O253 := same_out hlg hsm.all p242 s243 p254 s255
        have S260 := H259.pick [0, 1, 2, 3, 4, 5] (by decide)
        refine hK249 _ _ S260 ?_
        clear hK249 K249
        refine h_do 8 rfl (by kernel_rfl) (wants0 rfl) (fun K261 hK261 => ?_)
        refine d_call (d := 101) rfl (by kernel_rfl) (sameE_any w250 a239 c240 O241 (ListAt.row encEn_len (by decide) (H259.at 6 rfl)) (by omega) a251 c252 O253 (ListAt.row encEn_len (by decide) (H259.at 7 rfl))) ?_
        rintro _ w262 ⟨rfl, u264⟩
        have H263 := H259.keepU u264
        refine ⟨_, rfl, ?_⟩
        have S265 := H263.pick [0, 1, 2, 3, 4, 5] (by decide)
        refine hK261 _ _ S265 ?_
        clear hK261 K261
        refine h_val 9 rfl (by kernel_rfl) (by kernel_rfl) (by kernel_rfl) (fun _ _ _ h => h) S265 (wants0 rfl) (d := 102) (v := (.bool (decide (O241 = O253)))) rfl (fun _ H' => (by kernel_rfl)) ?_
        have b266 : (decide (O241 = O253)) = true := by exact decide_eq_true hsame
        refine h_know 102 (.bool true) (congrArg Value.bool b266) ?_
        refine h_do 10 rfl (by kernel_rfl) (wantsY 9 102 true rfl (by kernel_rfl) rfl (by kernel_rfl)) (fun K267 hK267 => ?_)
        refine d_call (d := 103) rfl (by kernel_rfl) (wakes_any w262) ?_
        rintro _ w268 ⟨rfl, u270⟩
        have H269 := H263.keepU u270
        refine ⟨_, rfl, ?_⟩
        have S271 := H269.pick [0, 1, 2, 3, 4, 5] (by decide)
        refine hK267 _ _ S271 ?_
        clear hK267 K267
        refine h_val 11 rfl (by kernel_rfl) (by kernel_rfl) (by kernel_rfl) (fun _ _ _ h => h) S271 (wants0 rfl) (d := 104) (v := (.bool true)) rfl (fun _ H' => (by kernel_rfl)) ?_
        refine h_val 12 rfl (by kernel_rfl) (by kernel_rfl) (by kernel_rfl) (fun _ _ _ h => h) S271 (wants0 rfl) (d := 6) (v := (.bool true)) rfl (fun _ H' => (by kernel_rfl)) ?_
        refine h_fin (by kernel_rfl) ?_
        refine then_normal ?_
        refine w_ret ?_
        refine end1 rfl (res_tmp (v := (.bool true)) rfl) ?_
        exact ⟨rfl, H269.upd 0 rfl [] (fun _ h => h.elim)⟩
  · have g272 := of_decide_eq_false b13
    refine wl_know 22 (.bool false) (congrArg Value.bool b13) ?_
    have g273 := of_decide_eq_false b13
    refine wl_pass (wantsN 5 22 true rfl (by kernel_rfl) rfl (by kernel_rfl)) rfl ?_
    refine wl_pass (wantsN 5 22 true rfl (by kernel_rfl) rfl (by kernel_rfl)) rfl ?_
    refine wl_pure (wants0 rfl) (d := 25) (v := (.bool false)) rfl (by kernel_rfl) ?_
    refine w_nil ?_
    refine then_normal ?_
    refine wp_iff rfl ?_
    refine w_exit ?_
    refine then_exit ?_
    refine back_exit ?_
    refine blk_hit ?_
    refine then_normal ?_
    refine w_seq ?_
    refine w_lit ?_
    refine wl_pure (wants0 rfl) (d := 69) (v := (.slice da D.length dc)) rfl (by kernel_rfl) ?_
    refine wl_pure (wants0 rfl) (d := 70) (v := (.pointer (some ⟨b2, 2, none⟩))) rfl (by kernel_rfl) ?_
    refine wl_do (wants0 rfl) (fun K274 hK274 => ?_)
    refine d_storeX (vs := ([(.slice da D.length dc)] : List Value)) (cs' := ([(.int .i64 (ep)), (.int .u64 (tm)), (.slice da D.length dc), (vo), (vt)] : List Value)) rfl H9 1 rfl rfl rfl rfl (by kernel_rfl) (Nat.le_of_ble_eq_true (by kernel_rfl)) (Nat.le_of_ble_eq_true (by kernel_rfl)) (by kernel_rfl) (by kernel_rfl) ?_
    intro w275 (H276 : Sat w [restC w (fun _ => False), cellC b2 27 ([(.int .i64 (ep)), (.int .u64 (tm)), (.slice da D.length dc), (vo), (vt)] : List Value), rowC 33 6 (.slice da D.length dc) D.length (D.flatMap encPr), bagC L] w275)
    refine hK274 _ _ ?_
    clear hK274 K274
    refine w_nil ?_
    refine then_normal ?_
    refine w_seq ?_
    refine w_lit ?_
    refine wl_do (wants0 rfl) (fun K278 hK278 => ?_)
    refine d_makeMap nmV Value.bool rfl H276 ?_
    intro b279 w280 (H281 : Sat w [restC w (fun _ => False), cellC b2 27 ([(.int .i64 (ep)), (.int .u64 (tm)), (.slice da D.length dc), (vo), (vt)] : List Value), rowC 33 6 (.slice da D.length dc) D.length (D.flatMap encPr), bagC L, mapC b279 nmV Value.bool []] w280)
    refine hK278 _ _ ?_
    clear hK278 K278
    refine wl_pure (wants0 rfl) (d := 13) (v := (.map (some b279))) rfl (by kernel_rfl) ?_
    refine w_nil ?_
    refine then_normal ?_
    refine w_seq ?_
    refine w_lit ?_
    refine wl_pure (wants0 rfl) (d := 14) (v := (.slice none 0 0)) rfl (by kernel_rfl) ?_
    refine w_nil ?_
    refine then_normal ?_
    refine w_seq ?_
    refine w_seq ?_
    refine w_lit ?_
    refine wl_pure (wants0 rfl) (d := 15) (v := (.int .i64 (0))) rfl (by kernel_rfl) ?_
    refine w_nil ?_
    refine then_normal ?_
    refine w_block ?_
    have H282 := H281.addNil 35 2
    refine wp_round [14, 15, 16, 72, 73, 74, 75, 76, 77, 78, 79, 80, 81, 82, 83, 84, 85, 86, 87, 88, 89, 90, 91, 92] (fun F_ W_ m_ => ∃ (q : Nat) (LM : List (NmD × Bool)) (la : Option Addr) (lc : Nat) (LN : List NmD), F_ 15 = (.int .i64 ((q : Int))) ∧ F_ 14 = (.slice la LN.length lc) ∧ (q ≤ 5) ∧ (LN.length ≤ q) ∧ (lgM LM = fun n => decide (n ∈ LN)) ∧ Sat w [restC w (fun _ => False), cellC b2 27 ([(.int .i64 (ep)), (.int .u64 (tm)), (.slice da D.length dc), (vo), (vt)] : List Value), rowC 33 6 (.slice da D.length dc) D.length (D.flatMap encPr), bagC L, mapC b279 nmV Value.bool LM, rowC 35 2 (.slice la LN.length lc) LN.length (LN.flatMap encNm)] W_ ∧ m_ = 5 - q) _ ⟨0, [], none, 0, [], (show ((.int .i64 (0)) : Value) = _ by first | rfl | go_num), (by first | rfl | go_num), (Nat.zero_le _), (Nat.le_refl _), (funext fun n => by simp [lgM, lookM]), H282, rfl⟩ ?_
    rintro g283 w284 _ ⟨q, LM, la, lc, LN, v286, v287, hq, hLl, hlg, H285, rfl⟩
    refine wp_know 15 _ v286 ?_
    refine wp_know 14 _ v287 ?_
    refine w_seq ?_
    refine w_seq ?_
    refine w_lit ?_
    refine wl_pure (wants0 rfl) (d := 72) (v := (.int .i64 ((q : Int)))) rfl (by kernel_rfl) ?_
    refine wl_pure (wants0 rfl) (d := 73) (v := (.slice na N.length nc)) rfl (by kernel_rfl) ?_
    refine wl_pure (wants0 rfl) (d := 74) (v := (.int .i64 ((N.length : Int)))) rfl (by kernel_rfl) ?_
    refine wl_pure (wants0 rfl) (d := 75) (v := (.bool (decide ((q : Int) < (N.length : Int))))) rfl (by kernel_rfl) ?_
    refine wl_pure (wants0 rfl) (d := 76) (v := (.bool (decide ((q : Int) < (N.length : Int))))) rfl (by kernel_rfl) ?_
    refine (bsplit (decide ((q : Int) < (N.length : Int)))).elim (fun b289 => ?_) (fun b289 => ?_)
    · have g290 := of_decide_eq_true b289
      refine wl_know 76 (.bool true) (congrArg Value.bool b289) ?_
      have g291 := of_decide_eq_true b289
      refine wl_pure (wantsY 4 76 true rfl (by kernel_rfl) rfl (by kernel_rfl)) (d := 77) (v := (.int .i64 ((q : Int)))) rfl (by kernel_rfl) ?_
      refine wl_pure (wantsY 4 76 true rfl (by kernel_rfl) rfl (by kernel_rfl)) (d := 78) (v := (.bool (decide ((q : Int) < 5)))) rfl (by kernel_rfl) ?_
      refine wl_pure (wants0 rfl) (d := 79) (v := (.bool (decide ((q : Int) < 5)))) rfl (by kernel_rfl) ?_
      refine w_nil ?_
      refine then_normal ?_
      refine (bsplit (decide ((q : Int) < 5))).elim (fun b292 => ?_) (fun b292 => ?_)
      · have g293 := of_decide_eq_true b292
        refine wp_know 79 (.bool true) (congrArg Value.bool b292) ?_
        have g294 := of_decide_eq_true b292
        refine wp_ift rfl ?_
        refine w_skip ?_
        refine then_normal ?_
        refine w_seq ?_
        refine w_block ?_
        refine w_seq ?_
        refine w_lit ?_
        refine wl_pure (wants0 rfl) (d := 82) (v := (.slice na N.length nc)) rfl (by kernel_rfl) ?_
        refine wl_pure (wants0 rfl) (d := 83) (v := (.int .i64 ((q : Int)))) rfl (by kernel_rfl) ?_
        obtain ⟨g295, o296, c297, e298, R299⟩ := SliceOf.atD hN nm0 (show q < N.length by omega)
        refine wl_pure (wants0 rfl) (d := 84) (v := (.pointer (some ⟨g295, o296 + ((q : Int)).toNat * 2, none⟩))) rfl (e_indexAddrW (E := 35) (by kernel_rfl) (by kernel_rfl) (Nat.le_of_ble_eq_true rfl) rfl e298 rfl (by omega) (by omega)) ?_
        refine wl_pure (wants0 rfl) (d := 85) (v := (.agg ⟨([(.int .i64 ((N.getD q nm0).cl)), (.int .i64 ((N.getD q nm0).sq))] : List Value)⟩)) rfl (e_loadRun (vs := ([(.int .i64 ((N.getD q nm0).cl)), (.int .i64 ((N.getD q nm0).sq))] : List Value)) rfl (by kernel_rfl) (by kernel_rfl) (Nat.le_of_ble_eq_true (by kernel_rfl)) (H285.runR 0 rfl (cells_run R299 0 (by kernel_rfl) (show o296 + ((q : Int)).toNat * 2 = o296 + q * 2 + 0 by omega)) (fun h => h))) ?_
        refine wl_do (wants0 rfl) (fun K300 hK300 => ?_)
        refine d_call (d := 86) rfl (by kernel_rfl) (small_any w284 ((N.getD q nm0).cl) ((N.getD q nm0).sq)) ?_
        rintro _ w301 ⟨rfl, u303⟩
        have H302 := H285.keepU u303
        refine ⟨_, rfl, ?_⟩
        refine hK300 _ _ ?_
        clear hK300 K300
        refine wl_do (wants0 rfl) (fun K304 hK304 => ?_)
        refine d_alloc (zs := ([(.int .i64 (0)), (.int .i64 (0))] : List Value)) (z := (.agg ⟨([(.int .i64 (0)), (.int .i64 (0))] : List Value)⟩)) rfl H302 (by kernel_rfl) (by kernel_rfl) ?_
        intro b305 w306 (H307 : Sat w [restC w (fun _ => False), cellC b2 27 ([(.int .i64 (ep)), (.int .u64 (tm)), (.slice da D.length dc), (vo), (vt)] : List Value), rowC 33 6 (.slice da D.length dc) D.length (D.flatMap encPr), bagC L, mapC b279 nmV Value.bool LM, rowC 35 2 (.slice la LN.length lc) LN.length (LN.flatMap encNm), cellC b305 35 ([(.int .i64 (0)), (.int .i64 (0))] : List Value)] w306)
        refine hK304 _ _ ?_
        clear hK304 K304
        refine wl_do (wants0 rfl) (fun K308 hK308 => ?_)
        refine d_storeX (vs := ([(.int .i64 (withinV ((N.getD q nm0).cl) 3)), (.int .i64 (1 + withinV ((N.getD q nm0).sq) 4))] : List Value)) (cs' := ([(.int .i64 (withinV ((N.getD q nm0).cl) 3)), (.int .i64 (1 + withinV ((N.getD q nm0).sq) 4))] : List Value)) rfl H307 6 rfl rfl rfl rfl (by kernel_rfl) (Nat.le_of_ble_eq_true (by kernel_rfl)) (Nat.le_of_ble_eq_true (by kernel_rfl)) (by kernel_rfl) (by kernel_rfl) ?_
        intro w309 (H310 : Sat w [restC w (fun _ => False), cellC b2 27 ([(.int .i64 (ep)), (.int .u64 (tm)), (.slice da D.length dc), (vo), (vt)] : List Value), rowC 33 6 (.slice da D.length dc) D.length (D.flatMap encPr), bagC L, mapC b279 nmV Value.bool LM, rowC 35 2 (.slice la LN.length lc) LN.length (LN.flatMap encNm), cellC b305 35 ([(.int .i64 (withinV ((N.getD q nm0).cl) 3)), (.int .i64 (1 + withinV ((N.getD q nm0).sq) 4))] : List Value)] w309)
        refine hK308 _ _ ?_
        clear hK308 K308
        refine w_nil ?_
        refine then_normal ?_
        refine w_seq ?_
        refine w_lit ?_
        refine wl_pure (wants0 rfl) (d := 87) (v := (.map (some b279))) rfl (by kernel_rfl) ?_
        refine wl_pure (wants0 rfl) (d := 88) (v := (.agg ⟨([(.int .i64 (withinV ((N.getD q nm0).cl) 3)), (.int .i64 (1 + withinV ((N.getD q nm0).sq) 4))] : List Value)⟩)) rfl (e_loadN (vs := ([(.int .i64 (withinV ((N.getD q nm0).cl) 3)), (.int .i64 (1 + withinV ((N.getD q nm0).sq) 4))] : List Value)) rfl (by kernel_rfl) (by kernel_rfl) (by exact Nat.le_of_ble_eq_true (by kernel_rfl)) (H310.at 6 rfl) (by kernel_rfl)) ?_
        refine wl_do (wants0 rfl) (fun K312 hK312 => ?_)
        refine d_mapUpdate (kt := 35) (et := 4) rfl H310 4 rfl nmK (by kernel_rfl) rfl (⟨withinV ((N.getD q nm0).cl) 3, 1 + withinV ((N.getD q nm0).sq) 4⟩ : NmD) rfl true rfl ?_
        intro w313 (H314 : Sat w [restC w (fun _ => False), cellC b2 27 ([(.int .i64 (ep)), (.int .u64 (tm)), (.slice da D.length dc), (vo), (vt)] : List Value), rowC 33 6 (.slice da D.length dc) D.length (D.flatMap encPr), bagC L, mapC b279 nmV Value.bool (putM LM (⟨withinV ((N.getD q nm0).cl) 3, 1 + withinV ((N.getD q nm0).sq) 4⟩ : NmD) true), rowC 35 2 (.slice la LN.length lc) LN.length (LN.flatMap encNm), cellC b305 35 ([(.int .i64 (withinV ((N.getD q nm0).cl) 3)), (.int .i64 (1 + withinV ((N.getD q nm0).sq) 4))] : List Value)] w313)
        refine hK312 _ _ ?_
        clear hK312 K312
        refine w_nil ?_
        refine then_normal ?_
        refine w_lit ?_
        refine wl_pure (wants0 rfl) (d := 89) (v := (.slice la LN.length lc)) rfl (by kernel_rfl) ?_
        refine wl_pure (wants0 rfl) (d := 90) (v := (.agg ⟨([(.int .i64 (withinV ((N.getD q nm0).cl) 3)), (.int .i64 (1 + withinV ((N.getD q nm0).sq) 4))] : List Value)⟩)) rfl (e_loadN (vs := ([(.int .i64 (withinV ((N.getD q nm0).cl) 3)), (.int .i64 (1 + withinV ((N.getD q nm0).sq) 4))] : List Value)) rfl (by kernel_rfl) (by kernel_rfl) (by exact Nat.le_of_ble_eq_true (by kernel_rfl)) (H314.at 6 rfl) (by kernel_rfl)) ?_
        refine wl_do (wants0 rfl) (fun K315 hK315 => ?_)
        refine d_buildSlice (e := 35) (size := 2) (bytes := 16) (z := (.agg ⟨([(.int .i64 (0)), (.int .i64 (0))] : List Value)⟩)) (pvs := [(0, (.agg ⟨([(.int .i64 (withinV ((N.getD q nm0).cl) 3)), (.int .i64 (1 + withinV ((N.getD q nm0).sq) 4))] : List Value)⟩))]) (vs := ([(.int .i64 (withinV ((N.getD q nm0).cl) 3)), (.int .i64 (1 + withinV ((N.getD q nm0).sq) 4))] : List Value)) rfl H314 (by kernel_rfl) (by kernel_rfl) (by kernel_rfl) (by kernel_rfl) (by kernel_rfl) rfl rfl ?_
        intro b316 w317 (H318 : Sat w [restC w (fun _ => False), cellC b2 27 ([(.int .i64 (ep)), (.int .u64 (tm)), (.slice da D.length dc), (vo), (vt)] : List Value), rowC 33 6 (.slice da D.length dc) D.length (D.flatMap encPr), bagC L, mapC b279 nmV Value.bool (putM LM (⟨withinV ((N.getD q nm0).cl) 3, 1 + withinV ((N.getD q nm0).sq) 4⟩ : NmD) true), rowC 35 2 (.slice la LN.length lc) LN.length (LN.flatMap encNm), cellC b305 35 ([(.int .i64 (withinV ((N.getD q nm0).cl) 3)), (.int .i64 (1 + withinV ((N.getD q nm0).sq) 4))] : List Value), rowC 35 2 (.slice (some ⟨b316, 0, none⟩) 1 1) 1 ([(.int .i64 (withinV ((N.getD q nm0).cl) 3)), (.int .i64 (1 + withinV ((N.getD q nm0).sq) 4))] : List Value)] w317)
        have H319 : Sat w [restC w (fun _ => False), cellC b2 27 ([(.int .i64 (ep)), (.int .u64 (tm)), (.slice da D.length dc), (vo), (vt)] : List Value), rowC 33 6 (.slice da D.length dc) D.length (D.flatMap encPr), bagC L, mapC b279 nmV Value.bool (putM LM (⟨withinV ((N.getD q nm0).cl) 3, 1 + withinV ((N.getD q nm0).sq) 4⟩ : NmD) true), rowC 35 2 (.slice la LN.length lc) LN.length (LN.flatMap encNm), cellC b305 35 ([(.int .i64 (withinV ((N.getD q nm0).cl) 3)), (.int .i64 (1 + withinV ((N.getD q nm0).sq) 4))] : List Value), rowC 35 2 (.slice (some ⟨b316, 0, none⟩) 1 1) 1 ([(⟨withinV ((N.getD q nm0).cl) 3, 1 + withinV ((N.getD q nm0).sq) 4⟩ : NmD)].flatMap encNm)] w317 := H318.cast (by rw [(show (([(.int .i64 (withinV ((N.getD q nm0).cl) 3)), (.int .i64 (1 + withinV ((N.getD q nm0).sq) 4))] : List Value) : List Value) = [(⟨withinV ((N.getD q nm0).cl) 3, 1 + withinV ((N.getD q nm0).sq) 4⟩ : NmD)].flatMap encNm by kernel_rfl)])
        refine hK315 _ _ ?_
        clear hK315 K315
        refine wl_do (wants0 rfl) (fun K320 hK320 => ?_)
        refine d_append (T := 28) (e := 35) (size := 2) (bytes := 16) rfl H319 (by kernel_rfl) 5 7 rfl rfl rfl rfl (flat_one encNm encNm_one [(⟨withinV ((N.getD q nm0).cl) 3, 1 + withinV ((N.getD q nm0).sq) 4⟩ : NmD)]) (by omega) (by omega) ?_
        intro v321 w322 (H323 : Sat w [restC w (fun _ => False), cellC b2 27 ([(.int .i64 (ep)), (.int .u64 (tm)), (.slice da D.length dc), (vo), (vt)] : List Value), rowC 33 6 (.slice da D.length dc) D.length (D.flatMap encPr), bagC L, mapC b279 nmV Value.bool (putM LM (⟨withinV ((N.getD q nm0).cl) 3, 1 + withinV ((N.getD q nm0).sq) 4⟩ : NmD) true), rowC 35 2 v321 (LN.length + 1) ((LN.flatMap encNm) ++ ([(⟨withinV ((N.getD q nm0).cl) 3, 1 + withinV ((N.getD q nm0).sq) 4⟩ : NmD)].flatMap encNm)), cellC b305 35 ([(.int .i64 (withinV ((N.getD q nm0).cl) 3)), (.int .i64 (1 + withinV ((N.getD q nm0).sq) 4))] : List Value), rowC 35 2 (.slice (some ⟨b316, 0, none⟩) 1 1) 1 ([(⟨withinV ((N.getD q nm0).cl) 3, 1 + withinV ((N.getD q nm0).sq) 4⟩ : NmD)].flatMap encNm)] w322)
        have H326 : Sat w [restC w (fun _ => False), cellC b2 27 ([(.int .i64 (ep)), (.int .u64 (tm)), (.slice da D.length dc), (vo), (vt)] : List Value), rowC 33 6 (.slice da D.length dc) D.length (D.flatMap encPr), bagC L, mapC b279 nmV Value.bool (putM LM (⟨withinV ((N.getD q nm0).cl) 3, 1 + withinV ((N.getD q nm0).sq) 4⟩ : NmD) true), rowC 35 2 v321 ((LN ++ [(⟨withinV ((N.getD q nm0).cl) 3, 1 + withinV ((N.getD q nm0).sq) 4⟩ : NmD)]).length) ((LN ++ [(⟨withinV ((N.getD q nm0).cl) 3, 1 + withinV ((N.getD q nm0).sq) 4⟩ : NmD)]).flatMap encNm), cellC b305 35 ([(.int .i64 (withinV ((N.getD q nm0).cl) 3)), (.int .i64 (1 + withinV ((N.getD q nm0).sq) 4))] : List Value), rowC 35 2 (.slice (some ⟨b316, 0, none⟩) 1 1) 1 ([(⟨withinV ((N.getD q nm0).cl) 3, 1 + withinV ((N.getD q nm0).sq) 4⟩ : NmD)].flatMap encNm)] w322 := H323.cast (by simp only [List.length_append, List.flatMap_append] <;> rfl)
        obtain ⟨a324, c325, rfl⟩ := ownsRow_shape (H326.at 5 rfl)
        refine hK320 _ _ ?_
        clear hK320 K320
        refine wl_pure (wants0 rfl) (d := 14) (v := (.slice a324 ((LN ++ [(⟨withinV ((N.getD q nm0).cl) 3, 1 + withinV ((N.getD q nm0).sq) 4⟩ : NmD)]).length) c325)) rfl (by kernel_rfl) ?_
        refine w_nil ?_
        refine blk_normal ?_
        refine then_normal ?_
        refine w_lit ?_
        refine wl_pure (wants0 rfl) (d := 80) (v := (.int .i64 ((q : Int)))) rfl (by kernel_rfl) ?_
        refine wl_pure (wants0 rfl) (d := 81) (v := (.int .i64 ((q : Int) + 1))) rfl (e_int (z := (q : Int) + 1) (by kernel_rfl) (IntWalk.i64_in _ (by omega))) ?_
        refine wl_pure (wants0 rfl) (d := 15) (v := (.int .i64 ((q : Int) + 1))) rfl (by kernel_rfl) ?_
        refine w_nil ?_
        have H327 : Sat w [restC w (fun _ => False), cellC b2 27 ([(.int .i64 (ep)), (.int .u64 (tm)), (.slice da D.length dc), (vo), (vt)] : List Value), rowC 33 6 (.slice da D.length dc) D.length (D.flatMap encPr), bagC L, mapC b279 nmV Value.bool (putM LM (⟨withinV ((N.getD q nm0).cl) 3, 1 + withinV ((N.getD q nm0).sq) 4⟩ : NmD) true), rowC 35 2 (.slice a324 ((LN ++ [(⟨withinV ((N.getD q nm0).cl) 3, 1 + withinV ((N.getD q nm0).sq) 4⟩ : NmD)]).length) c325) ((LN ++ [(⟨withinV ((N.getD q nm0).cl) 3, 1 + withinV ((N.getD q nm0).sq) 4⟩ : NmD)]).length) ((LN ++ [(⟨withinV ((N.getD q nm0).cl) 3, 1 + withinV ((N.getD q nm0).sq) 4⟩ : NmD)]).flatMap encNm)] w322 := H326.pick [0, 1, 2, 3, 4, 5] (by decide)
        refine round_back ?_ _ ⟨(q + 1), (putM LM (⟨withinV ((N.getD q nm0).cl) 3, 1 + withinV ((N.getD q nm0).sq) 4⟩ : NmD) true), a324, c325, (LN ++ [(⟨withinV ((N.getD q nm0).cl) 3, 1 + withinV ((N.getD q nm0).sq) 4⟩ : NmD)]), (show ((.int .i64 ((q : Int) + 1)) : Value) = _ by first | rfl | go_num), (show ((.slice a324 ((LN ++ [(⟨withinV ((N.getD q nm0).cl) 3, 1 + withinV ((N.getD q nm0).sq) 4⟩ : NmD)]).length) c325) : Value) = _ by first | rfl | go_num), (by omega), (by simp only [List.length_append, List.length_cons, List.length_nil]; omega), (lg_put hlg _), H327, rfl⟩ (by omega)
        exact (same_upd rfl (same_upd rfl (same_upd rfl (same_upd rfl (same_upd rfl (same_upd rfl (same_upd rfl (same_upd rfl (same_upd rfl (same_upd rfl (same_upd rfl (same_upd rfl (same_upd rfl (same_upd rfl (same_upd rfl (same_upd rfl (same_upd rfl (same_upd rfl (same_upd rfl (same_upd rfl (same_upd rfl (same_upd rfl (same_upd rfl (same_upd rfl (same_upd rfl (same_upd rfl (same_upd rfl (same_upd rfl (same_ovr)))))))))))))))))))))))))))))
      · have g328 := of_decide_eq_false b292
        refine wp_know 79 (.bool false) (congrArg Value.bool b292) ?_
        have g329 := of_decide_eq_false b292
        refine wp_iff rfl ?_
        refine w_exit ?_
        refine then_exit ?_
        refine back_exit ?_
        refine blk_hit ?_
        refine then_normal ?_
        refine w_seq ?_
        refine h_start H285 [restC w (fun _ => False), cellC b2 27 ([(.int .i64 (ep)), (.int .u64 (tm)), (.slice da D.length dc), (vo), (vt)] : List Value), rowC 33 6 (.slice da D.length dc) D.length (D.flatMap encPr), bagC L, mapC b279 nmV Value.bool LM, rowC 35 2 (.slice la LN.length lc) LN.length (LN.flatMap encNm)] 13 rfl (by kernel_rfl) (fun Hx => (Hx.pick [0, 1, 2, 3, 4, 5] (by decide))) ?_
        intro w330 H331 S332
        refine h_val 0 rfl (by kernel_rfl) (by kernel_rfl) (by kernel_rfl) (fun _ _ _ h => h) S332 (wants0 rfl) (d := 93) (v := (.int .u64 (last))) rfl (fun _ H' => (by kernel_rfl)) ?_
        refine h_val 1 rfl (by kernel_rfl) (by kernel_rfl) (by kernel_rfl) (fun _ _ _ h => h) S332 (wants0 rfl) (d := 94) (v := (.map (some b279))) rfl (fun _ H' => (by kernel_rfl)) ?_
        refine h_val 2 rfl (by kernel_rfl) (by kernel_rfl) (by kernel_rfl) (fun _ _ _ h => h) S332 (wants0 rfl) (d := 95) (v := (.agg ⟨([(.int .i64 (ep)), (.int .u64 (tm)), (.slice da D.length dc), (vo), (vt)] : List Value)⟩)) rfl (fun _ H' => (e_loadN (vs := ([(.int .i64 (ep)), (.int .u64 (tm)), (.slice da D.length dc), (vo), (vt)] : List Value)) rfl (by kernel_rfl) (by kernel_rfl) (by exact Nat.le_of_ble_eq_true (by kernel_rfl)) (H'.at 1 rfl) (by kernel_rfl))) ?_
        refine h_val 4 rfl (by kernel_rfl) (by kernel_rfl) (by kernel_rfl) (fun _ _ _ h => h) S332 (wants0 rfl) (d := 97) (v := (.int .u64 (last))) rfl (fun _ H' => (by kernel_rfl)) ?_
        refine h_val 5 rfl (by kernel_rfl) (by kernel_rfl) (by kernel_rfl) (fun _ _ _ h => h) S332 (wants0 rfl) (d := 98) (v := (.slice la LN.length lc)) rfl (fun _ H' => (by kernel_rfl)) ?_
        refine h_val 6 rfl (by kernel_rfl) (by kernel_rfl) (by kernel_rfl) (fun _ _ _ h => h) S332 (wants0 rfl) (d := 99) (v := (.agg ⟨([(.int .i64 (ep)), (.int .u64 (tm)), (.slice da D.length dc), (vo), (vt)] : List Value)⟩)) rfl (fun _ H' => (e_loadN (vs := ([(.int .i64 (ep)), (.int .u64 (tm)), (.slice da D.length dc), (vo), (vt)] : List Value)) rfl (by kernel_rfl) (by kernel_rfl) (by exact Nat.le_of_ble_eq_true (by kernel_rfl)) (H'.at 1 rfl) (by kernel_rfl))) ?_
        refine h_do 3 rfl (by kernel_rfl) (wants0 rfl) (fun K333 hK333 => ?_)
        refine d_call (d := 96) rfl (by kernel_rfl) (wEntries_any w330 last tm ep (vo) (vt) b279 LM (H331.at 4 rfl) da dc D (ListAt.row encPr_len (by decide) (H331.at 2 rfl)) (fun i hi => (hpn _ (getD_memP hi)).ok (H331.at 3 rfl)) hsm (by omega) (fun i hi => by have q := hD5 _ (getD_memP hi); omega)) ?_
        rintro _ w334 ⟨a335, c336, O337, rfl, p338, s339, k340, u341, f342⟩
        have H343 : Sat w [restC w (fun _ => False), cellC b2 27 ([(.int .i64 (ep)), (.int .u64 (tm)), (.slice da D.length dc), (vo), (vt)] : List Value), rowC 33 6 (.slice da D.length dc) D.length (D.flatMap encPr), bagC L, mapC b279 nmV Value.bool LM, rowC 35 2 (.slice la LN.length lc) LN.length (LN.flatMap encNm), rowC 50 35 (.slice a335 O337.length c336) O337.length (O337.flatMap encEn)] w334 := H331.addU u341 k340 f342
        have hlO337 := out_lim hsm.all p338
        refine ⟨_, rfl, ?_⟩
        have S344 := H343.pick [0, 1, 2, 3, 4, 5] (by decide)
        refine hK333 _ _ S344 ?_
        clear hK333 K333
        refine h_do 7 rfl (by kernel_rfl) (wants0 rfl) (fun K345 hK345 => ?_)
        refine d_call (d := 100) rfl (by kernel_rfl) (rEntries_any w334 last tm ep (vo) (vt) la lc LN (ListAt.row (enc := encNm) (sz := 2) encNm_len (by decide) (H343.at 5 rfl)) (by omega) da dc D (ListAt.row encPr_len (by decide) (H343.at 2 rfl)) (fun i hi => (hpn _ (getD_memP hi)).ok (H343.at 3 rfl)) hsm (by omega) (fun i hi => by have q := hD5 _ (getD_memP hi); omega)) ?_
        rintro _ w346 ⟨a347, c348, O349, rfl, p350, s351, k352, u353, f354⟩
        have H355 : Sat w [restC w (fun _ => False), cellC b2 27 ([(.int .i64 (ep)), (.int .u64 (tm)), (.slice da D.length dc), (vo), (vt)] : List Value), rowC 33 6 (.slice da D.length dc) D.length (D.flatMap encPr), bagC L, mapC b279 nmV Value.bool LM, rowC 35 2 (.slice la LN.length lc) LN.length (LN.flatMap encNm), rowC 50 35 (.slice a335 O337.length c336) O337.length (O337.flatMap encEn), rowC 50 35 (.slice a347 O349.length c348) O349.length (O349.flatMap encEn)] w346 := H343.addU u353 k352 f354
        have hlO349 := out_lim hsm.all p350
        refine ⟨_, rfl, ?_⟩
        have hsame : O337 = O349 := same_out hlg hsm.all p338 s339 p350 s351
        have S356 := H355.pick [0, 1, 2, 3, 4, 5] (by decide)
        refine hK345 _ _ S356 ?_
        clear hK345 K345
        refine h_do 8 rfl (by kernel_rfl) (wants0 rfl) (fun K357 hK357 => ?_)
        refine d_call (d := 101) rfl (by kernel_rfl) (sameE_any w346 a335 c336 O337 (ListAt.row encEn_len (by decide) (H355.at 6 rfl)) (by omega) a347 c348 O349 (ListAt.row encEn_len (by decide) (H355.at 7 rfl))) ?_
        rintro _ w358 ⟨rfl, u360⟩
        have H359 := H355.keepU u360
        refine ⟨_, rfl, ?_⟩
        have S361 := H359.pick [0, 1, 2, 3, 4, 5] (by decide)
        refine hK357 _ _ S361 ?_
        clear hK357 K357
        refine h_val 9 rfl (by kernel_rfl) (by kernel_rfl) (by kernel_rfl) (fun _ _ _ h => h) S361 (wants0 rfl) (d := 102) (v := (.bool (decide (O337 = O349)))) rfl (fun _ H' => (by kernel_rfl)) ?_
        have b362 : (decide (O337 = O349)) = true := by exact decide_eq_true hsame
        refine h_know 102 (.bool true) (congrArg Value.bool b362) ?_
        refine h_do 10 rfl (by kernel_rfl) (wantsY 9 102 true rfl (by kernel_rfl) rfl (by kernel_rfl)) (fun K363 hK363 => ?_)
        refine d_call (d := 103) rfl (by kernel_rfl) (wakes_any w358) ?_
        rintro _ w364 ⟨rfl, u366⟩
        have H365 := H359.keepU u366
        refine ⟨_, rfl, ?_⟩
        have S367 := H365.pick [0, 1, 2, 3, 4, 5] (by decide)
        refine hK363 _ _ S367 ?_
        clear hK363 K363
        refine h_val 11 rfl (by kernel_rfl) (by kernel_rfl) (by kernel_rfl) (fun _ _ _ h => h) S367 (wants0 rfl) (d := 104) (v := (.bool true)) rfl (fun _ H' => (by kernel_rfl)) ?_
        refine h_val 12 rfl (by kernel_rfl) (by kernel_rfl) (by kernel_rfl) (fun _ _ _ h => h) S367 (wants0 rfl) (d := 6) (v := (.bool true)) rfl (fun _ H' => (by kernel_rfl)) ?_
        refine h_fin (by kernel_rfl) ?_
        refine then_normal ?_
        refine w_ret ?_
        refine end1 rfl (res_tmp (v := (.bool true)) rfl) ?_
        exact ⟨rfl, H365.upd 0 rfl [] (fun _ h => h.elim)⟩
    · have g368 := of_decide_eq_false b289
      refine wl_know 76 (.bool false) (congrArg Value.bool b289) ?_
      have g369 := of_decide_eq_false b289
      refine wl_pass (wantsN 4 76 true rfl (by kernel_rfl) rfl (by kernel_rfl)) rfl ?_
      refine wl_pass (wantsN 4 76 true rfl (by kernel_rfl) rfl (by kernel_rfl)) rfl ?_
      refine wl_pure (wants0 rfl) (d := 79) (v := (.bool false)) rfl (by kernel_rfl) ?_
      refine w_nil ?_
      refine then_normal ?_
      refine wp_iff rfl ?_
      refine w_exit ?_
      refine then_exit ?_
      refine back_exit ?_
      refine blk_hit ?_
      refine then_normal ?_
      refine w_seq ?_
      refine h_start H285 [restC w (fun _ => False), cellC b2 27 ([(.int .i64 (ep)), (.int .u64 (tm)), (.slice da D.length dc), (vo), (vt)] : List Value), rowC 33 6 (.slice da D.length dc) D.length (D.flatMap encPr), bagC L, mapC b279 nmV Value.bool LM, rowC 35 2 (.slice la LN.length lc) LN.length (LN.flatMap encNm)] 13 rfl (by kernel_rfl) (fun Hx => (Hx.pick [0, 1, 2, 3, 4, 5] (by decide))) ?_
      intro w370 H371 S372
      refine h_val 0 rfl (by kernel_rfl) (by kernel_rfl) (by kernel_rfl) (fun _ _ _ h => h) S372 (wants0 rfl) (d := 93) (v := (.int .u64 (last))) rfl (fun _ H' => (by kernel_rfl)) ?_
      refine h_val 1 rfl (by kernel_rfl) (by kernel_rfl) (by kernel_rfl) (fun _ _ _ h => h) S372 (wants0 rfl) (d := 94) (v := (.map (some b279))) rfl (fun _ H' => (by kernel_rfl)) ?_
      refine h_val 2 rfl (by kernel_rfl) (by kernel_rfl) (by kernel_rfl) (fun _ _ _ h => h) S372 (wants0 rfl) (d := 95) (v := (.agg ⟨([(.int .i64 (ep)), (.int .u64 (tm)), (.slice da D.length dc), (vo), (vt)] : List Value)⟩)) rfl (fun _ H' => (e_loadN (vs := ([(.int .i64 (ep)), (.int .u64 (tm)), (.slice da D.length dc), (vo), (vt)] : List Value)) rfl (by kernel_rfl) (by kernel_rfl) (by exact Nat.le_of_ble_eq_true (by kernel_rfl)) (H'.at 1 rfl) (by kernel_rfl))) ?_
      refine h_val 4 rfl (by kernel_rfl) (by kernel_rfl) (by kernel_rfl) (fun _ _ _ h => h) S372 (wants0 rfl) (d := 97) (v := (.int .u64 (last))) rfl (fun _ H' => (by kernel_rfl)) ?_
      refine h_val 5 rfl (by kernel_rfl) (by kernel_rfl) (by kernel_rfl) (fun _ _ _ h => h) S372 (wants0 rfl) (d := 98) (v := (.slice la LN.length lc)) rfl (fun _ H' => (by kernel_rfl)) ?_
      refine h_val 6 rfl (by kernel_rfl) (by kernel_rfl) (by kernel_rfl) (fun _ _ _ h => h) S372 (wants0 rfl) (d := 99) (v := (.agg ⟨([(.int .i64 (ep)), (.int .u64 (tm)), (.slice da D.length dc), (vo), (vt)] : List Value)⟩)) rfl (fun _ H' => (e_loadN (vs := ([(.int .i64 (ep)), (.int .u64 (tm)), (.slice da D.length dc), (vo), (vt)] : List Value)) rfl (by kernel_rfl) (by kernel_rfl) (by exact Nat.le_of_ble_eq_true (by kernel_rfl)) (H'.at 1 rfl) (by kernel_rfl))) ?_
      refine h_do 3 rfl (by kernel_rfl) (wants0 rfl) (fun K373 hK373 => ?_)
      refine d_call (d := 96) rfl (by kernel_rfl) (wEntries_any w370 last tm ep (vo) (vt) b279 LM (H371.at 4 rfl) da dc D (ListAt.row encPr_len (by decide) (H371.at 2 rfl)) (fun i hi => (hpn _ (getD_memP hi)).ok (H371.at 3 rfl)) hsm (by omega) (fun i hi => by have q := hD5 _ (getD_memP hi); omega)) ?_
      rintro _ w374 ⟨a375, c376, O377, rfl, p378, s379, k380, u381, f382⟩
      have H383 : Sat w [restC w (fun _ => False), cellC b2 27 ([(.int .i64 (ep)), (.int .u64 (tm)), (.slice da D.length dc), (vo), (vt)] : List Value), rowC 33 6 (.slice da D.length dc) D.length (D.flatMap encPr), bagC L, mapC b279 nmV Value.bool LM, rowC 35 2 (.slice la LN.length lc) LN.length (LN.flatMap encNm), rowC 50 35 (.slice a375 O377.length c376) O377.length (O377.flatMap encEn)] w374 := H371.addU u381 k380 f382
      have hlO377 := out_lim hsm.all p378
      refine ⟨_, rfl, ?_⟩
      have S384 := H383.pick [0, 1, 2, 3, 4, 5] (by decide)
      refine hK373 _ _ S384 ?_
      clear hK373 K373
      refine h_do 7 rfl (by kernel_rfl) (wants0 rfl) (fun K385 hK385 => ?_)
      refine d_call (d := 100) rfl (by kernel_rfl) (rEntries_any w374 last tm ep (vo) (vt) la lc LN (ListAt.row (enc := encNm) (sz := 2) encNm_len (by decide) (H383.at 5 rfl)) (by omega) da dc D (ListAt.row encPr_len (by decide) (H383.at 2 rfl)) (fun i hi => (hpn _ (getD_memP hi)).ok (H383.at 3 rfl)) hsm (by omega) (fun i hi => by have q := hD5 _ (getD_memP hi); omega)) ?_
      rintro _ w386 ⟨a387, c388, O389, rfl, p390, s391, k392, u393, f394⟩
      have H395 : Sat w [restC w (fun _ => False), cellC b2 27 ([(.int .i64 (ep)), (.int .u64 (tm)), (.slice da D.length dc), (vo), (vt)] : List Value), rowC 33 6 (.slice da D.length dc) D.length (D.flatMap encPr), bagC L, mapC b279 nmV Value.bool LM, rowC 35 2 (.slice la LN.length lc) LN.length (LN.flatMap encNm), rowC 50 35 (.slice a375 O377.length c376) O377.length (O377.flatMap encEn), rowC 50 35 (.slice a387 O389.length c388) O389.length (O389.flatMap encEn)] w386 := H383.addU u393 k392 f394
      have hlO389 := out_lim hsm.all p390
      refine ⟨_, rfl, ?_⟩
      have hsame : O377 = O389 := same_out hlg hsm.all p378 s379 p390 s391
      have S396 := H395.pick [0, 1, 2, 3, 4, 5] (by decide)
      refine hK385 _ _ S396 ?_
      clear hK385 K385
      refine h_do 8 rfl (by kernel_rfl) (wants0 rfl) (fun K397 hK397 => ?_)
      refine d_call (d := 101) rfl (by kernel_rfl) (sameE_any w386 a375 c376 O377 (ListAt.row encEn_len (by decide) (H395.at 6 rfl)) (by omega) a387 c388 O389 (ListAt.row encEn_len (by decide) (H395.at 7 rfl))) ?_
      rintro _ w398 ⟨rfl, u400⟩
      have H399 := H395.keepU u400
      refine ⟨_, rfl, ?_⟩
      have S401 := H399.pick [0, 1, 2, 3, 4, 5] (by decide)
      refine hK397 _ _ S401 ?_
      clear hK397 K397
      refine h_val 9 rfl (by kernel_rfl) (by kernel_rfl) (by kernel_rfl) (fun _ _ _ h => h) S401 (wants0 rfl) (d := 102) (v := (.bool (decide (O377 = O389)))) rfl (fun _ H' => (by kernel_rfl)) ?_
      have b402 : (decide (O377 = O389)) = true := by exact decide_eq_true hsame
      refine h_know 102 (.bool true) (congrArg Value.bool b402) ?_
      refine h_do 10 rfl (by kernel_rfl) (wantsY 9 102 true rfl (by kernel_rfl) rfl (by kernel_rfl)) (fun K403 hK403 => ?_)
      refine d_call (d := 103) rfl (by kernel_rfl) (wakes_any w398) ?_
      rintro _ w404 ⟨rfl, u406⟩
      have H405 := H399.keepU u406
      refine ⟨_, rfl, ?_⟩
      have S407 := H405.pick [0, 1, 2, 3, 4, 5] (by decide)
      refine hK403 _ _ S407 ?_
      clear hK403 K403
      refine h_val 11 rfl (by kernel_rfl) (by kernel_rfl) (by kernel_rfl) (fun _ _ _ h => h) S407 (wants0 rfl) (d := 104) (v := (.bool true)) rfl (fun _ H' => (by kernel_rfl)) ?_
      refine h_val 12 rfl (by kernel_rfl) (by kernel_rfl) (by kernel_rfl) (fun _ _ _ h => h) S407 (wants0 rfl) (d := 6) (v := (.bool true)) rfl (fun _ H' => (by kernel_rfl)) ?_
      refine h_fin (by kernel_rfl) ?_
      refine then_normal ?_
      refine w_ret ?_
      refine end1 rfl (res_tmp (v := (.bool true)) rfl) ?_
      exact ⟨rfl, H405.upd 0 rfl [] (fun _ h => h.elim)⟩

end Go.Proofs.Ytenihpghfdcpkaa
