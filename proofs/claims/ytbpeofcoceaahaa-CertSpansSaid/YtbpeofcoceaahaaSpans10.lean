/- WHAT IS PROVED: the walk of CertSpans. Conditions: stated with each. -/
import Derived.Test.YtbpeofcoceaahaaWhole10M
import Derived.Test.YtbpeofcoceaahaaMedMath
import Derived.Test.YtbpeofcoceaahaaRg2w
import Derived.Test.YtbpeofcoceaahaaNumsS
import Derived.Test.YtbpeofcoceaahaaMkG
namespace Go.Proofs.Ytbpeofcoceaahaa
open Go.RowKit
/-- a stamp that may be in a certificate of y -/
structure OkS (y : CommitD) (N : Nat) (L : List Signed) (lo hi : Int) (s : StampD) : Prop where
  good : GoodS L s
  t : 1 ≤ s.t ∧ s.t ≤ 10000
  r : 0 ≤ s.r ∧ s.r < N
  cl : s.cl ≤ 1000000
  seq : s.seq ≤ 1000000
  same : sameN s y = true
  low : lo ≤ s.t
  high : s.t ≤ hi
structure SInv (y : CommitD) (N : Nat) (L : List Signed) (D : List StampD) (i : Nat) (lo hi : Int) : Prop where
  all : ∀ s ∈ D, OkS y N L lo hi s ∧ s.r < i
  dif : D.Pairwise fun a b => a.r ≠ b.r
theorem SInv.start (y : CommitD) (N : Nat) (L : List Signed) (lo hi : Int) : SInv y N L [] 0 lo hi := ⟨by simp, List.Pairwise.nil⟩
theorem SInv.one {y : CommitD} {N i : Nat} {L : List Signed} {D : List StampD} {lo hi : Int} (h : SInv y N L D i lo hi) (hi' : i < N) {t : Int} (ht : 1 ≤ t ∧ t ≤ 10000) (hy : y.cl ≤ 1000000 ∧ y.seq ≤ 1000000) : SInv y N (signL L (yS i y t)) (D ++ [mkS L i y t]) (i + 1) (min lo t) (max hi t) := by
  refine ⟨fun s hs => ?_, List.pairwise_append.2 ⟨h.dif, by simp, fun a ha b hb => ?_⟩⟩
  · rcases List.mem_append.1 hs with hs | hs
    · obtain ⟨g, hr⟩ := h.all s hs
      exact ⟨⟨goodS_keep g.good _, g.t, g.r, g.cl, g.seq, g.same, by have := g.low; omega, by have := g.high; omega⟩, by omega⟩
    · obtain rfl := List.mem_singleton.1 hs
      exact ⟨⟨goodS_new L i y t, ht, ⟨by show (0 : Int) ≤ i; omega, by show (i : Int) < N; omega⟩, hy.1, hy.2, sameN_mkS L i y t, by show min lo t ≤ t; omega, by show t ≤ max hi t; omega⟩, by show (i : Int) < ((i + 1 : Nat) : Int); omega⟩
  · obtain rfl := List.mem_singleton.1 hb
    have := (h.all a ha).2
    show a.r ≠ (i : Int); omega
theorem outS_fold {F : Int} {x : CommitD} : ∀ (l D : List StampD), (∀ s ∈ l, mayS F x s = true) → ((D ++ l).Pairwise fun a b => a.r ≠ b.r) → l.foldl (takeS F x) D = D ++ l
  | [], D, _, _ => by simp
  | s :: l, D, h, hd => by
    have h1 : takeS F x D s = D ++ [s] := by
      have hn : hasR D s.r = false := by
        rw [Bool.eq_false_iff]
        intro hh
        obtain ⟨o, ho, e⟩ := hasR_iff.1 hh
        exact (List.pairwise_append.1 hd).2.2 o ho s (by simp) e
      unfold takeS
      rw [h s (by simp), hn]; rfl
    rw [List.foldl_cons, h1, outS_fold l (D ++ [s]) (fun u hu => h u (List.mem_cons_of_mem _ hu)) (by rw [List.append_assoc]; exact hd), List.append_assoc]; rfl
theorem outS_all {F : Int} {x : CommitD} {l : List StampD} (h : ∀ s ∈ l, mayS F x s = true) (hd : l.Pairwise fun a b => a.r ≠ b.r) : outS F x l = l := by
  have := outS_fold l [] h (by simpa using hd)
  simpa [outS] using this
section
variable {y : CommitD} {N Q k i : Nat} {f lo hi : Int} {L : List Signed} {D S : List StampD}
theorem SInv.turn (h : SInv y N L D i lo hi) {s : StampD} (hs : s ∈ (D.drop k ++ D.take k).take Q) : OkS y N L lo hi s := by
  have h1 := List.mem_of_mem_take hs
  rcases List.mem_append.1 h1 with h2 | h2
  · exact (h.all s (List.mem_of_mem_drop h2)).1
  · exact (h.all s (List.mem_of_mem_take h2)).1
theorem SInv.out (h : SInv y N L D i lo hi) (hN : (N : Int) = 3 * f + 1) : outS f y ((D.drop k ++ D.take k).take Q) = (D.drop k ++ D.take k).take Q := by
  refine outS_all (fun s hs => ?_) ?_
  · have g := h.turn hs
    unfold mayS inB
    rw [g.same, decide_eq_true g.r.1, decide_eq_true (show s.r < 3 * f + 1 by have := g.r.2; omega)]; rfl
  · have hp : (D.drop k ++ D.take k).Perm D := List.perm_append_comm.trans (by rw [List.take_append_drop])
    exact ((hp.symm.pairwise_iff (fun h => Ne.symm h)).1 h.dif).sublist (List.take_sublist _ _)
theorem ref_sub {s : StampD} (hs : s ∈ (refS y S N).take Q) : s ∈ S ∧ sameN s y = true := by
  obtain ⟨_, hf⟩ := refS_mem.1 (List.mem_of_mem_take hs)
  obtain ⟨_, h2, h3⟩ := firstR_some hf
  exact ⟨h3, h2⟩
theorem getD_take {i : Nat} {T : List StampD} (h : i < T.length) : T.getD i stamp0 ∈ T := by
  rw [List.getD_eq_getElem?_getD, List.getElem?_eq_getElem h]; exact List.getElem_mem h
theorem rightX_of (hall : ∀ s ∈ S, OkS y N L lo hi s) (hN : (N : Int) = 3 * f + 1) (hQ : (Q : Int) = 2 * f + 1) (hl : Q ≤ (refS y S N).length) {cn : Int} (hc : rightC cn L y = true) : rightX f cn L y ((refS y S N).take Q) = true := by
  have hlen : ((refS y S N).take Q).length = Q := by rw [List.length_take]; omega
  unfold rightX
  rw [hc, hlen, decide_eq_true hQ, Bool.true_and, Bool.true_and]
  refine all_upto fun i hi => ?_
  have hi' : i < ((refS y S N).take Q).length := by omega
  obtain ⟨h1, h2⟩ := ref_sub (getD_take hi')
  have g := hall _ h1
  have h4 : rightS f L (((refS y S N).take Q).getD i stamp0) = true := goodS_right g.good ⟨g.r.1, by have := g.r.2; omega⟩ ⟨g.t.1, by have := g.t.2; omega⟩
  unfold okAt
  rw [h2, h4, Bool.and_true, Bool.and_true]
  by_cases h0 : i = 0
  · subst h0; rfl
  · have := take_rise (x := y) (S := S) (Q := Q) N (show 0 < i by omega) hi'
    rw [Bool.or_eq_true]
    right
    rw [Bool.not_eq_true', decide_eq_false_iff_not]
    omega
theorem stsOk_of (hall : ∀ s ∈ S, OkS y N L lo hi s) (hN : N ≤ 1000) : StsOk ((refS y S N).take Q) := fun i hi => by
  have g := hall _ (ref_sub (getD_take hi)).1
  have h1 := g.t; have h2 := g.r; have h3 := g.cl; have h4 := g.seq
  exact ⟨by omega, by omega, by omega, by omega, by omega⟩
theorem time_of (hall : ∀ s ∈ S, OkS y N L lo hi s) (hQ : (Q : Int) = 2 * f + 1) (hl : Q ≤ (refS y S N).length) : lo ≤ timeD ((refS y S N).take Q) ∧ timeD ((refS y S N).take Q) ≤ hi := by
  have hlen : (timesD ((refS y S N).take Q)).length % 2 = 1 := by rw [times_len, List.length_take]; omega
  have hm := (medV_p hlen).mem
  obtain ⟨s, hs, he⟩ := List.mem_map.1 (show medV (timesD ((refS y S N).take Q)) ∈ ((refS y S N).take Q).map (·.t) from hm)
  have g := hall _ (ref_sub hs).1
  have h1 := g.low; have h2 := g.high
  unfold timeD
  rw [← he]
  exact ⟨h1, h2⟩
end
end Go.Proofs.Ytbpeofcoceaahaa
namespace Go.Proofs.Ytbpeofcoceaahaa
open Go.RowKit

set_option maxRecDepth 100000 in
set_option maxHeartbeats 1000000 in
theorem wTime_any (w : World) (x : CommitD) (sa : Option Addr) (sc : Nat) (S : List StampD) (hS : ListAt encSt 38 w (.slice sa S.length sc) S) (hlS : S.length ≤ 12) :
    Calls Try.prog 22 #[(.agg ⟨(([(.int .i64 (x.cl)), (.int .i64 (x.seq))] : List Value) ++ hc x.h ++ ([(.int .i64 (x.len)), (.int .i64 (x.sb)), (.int .i64 (x.sm)), (.slice sa S.length sc)] : List Value))⟩)] w fun e w' => e = .returned (.int .u64 (timeD S)) ∧ Upd [] w w' := by
  have H := Sat.start0 w
  refine calls_fr Try.func22 rfl 27 rfl (Nat.le_of_ble_eq_true rfl) ?_
  refine w_seq ?_
  refine w_lit ?_
  refine wl_do (wants0 rfl) (fun K1 hK1 => ?_)
  refine d_box (vs := (([(.int .i64 (x.cl)), (.int .i64 (x.seq))] : List Value) ++ hc x.h ++ ([(.int .i64 (x.len)), (.int .i64 (x.sb)), (.int .i64 (x.sm)), (.slice sa S.length sc)] : List Value))) rfl H rfl rfl ?_
  intro b2 w3 (H4 : Sat w [restC w (fun _ => False), cellC b2 47 (([(.int .i64 (x.cl)), (.int .i64 (x.seq))] : List Value) ++ hc x.h ++ ([(.int .i64 (x.len)), (.int .i64 (x.sb)), (.int .i64 (x.sm)), (.slice sa S.length sc)] : List Value))] w3)
  refine hK1 _ _ ?_
  clear hK1 K1
  refine wl_pure (wants0 rfl) (d := 2) (v := (.int .u64 (0))) rfl (by kernel_rfl) ?_
  refine w_nil ?_
  refine then_normal ?_
  refine w_seq ?_
  refine w_lit ?_
  refine wl_pure (wants0 rfl) (d := 3) (v := (.slice none 0 0)) rfl (by kernel_rfl) ?_
  refine w_nil ?_
  refine then_normal ?_
  refine w_seq ?_
  refine w_seq ?_
  refine w_lit ?_
  refine wl_pure (wants0 rfl) (d := 8) (v := (.pointer (some ⟨b2, 37, none⟩))) rfl (by kernel_rfl) ?_
  refine wl_pure (wants0 rfl) (d := 9) (v := (.slice sa S.length sc)) rfl (e_load1 rfl (by kernel_rfl) (H4.cell 1 rfl (by kernel_rfl))) ?_
  refine wl_pure (wants0 rfl) (d := 10) (v := (.int .i64 ((S.length : Int)))) rfl (by kernel_rfl) ?_
  refine wl_pure (wants0 rfl) (d := 11) (v := (.int .i64 (0))) rfl (by kernel_rfl) ?_
  refine w_nil ?_
  refine then_normal ?_
  refine w_block ?_
  have H5 := H4.addNil 23 1
  refine wp_round [3, 5, 11, 12, 13, 14, 15, 16, 17, 18, 19, 20] (fun F_ W_ m_ => ∃ (i : Nat) (a : Option Addr) (c : Nat) (D : List Int), F_ 11 = (.int .i64 ((i : Int))) ∧ F_ 3 = (.slice a D.length c) ∧ (i ≤ S.length) ∧ (D = timesD (S.take i)) ∧ Sat w [restC w (fun _ => False), cellC b2 47 (([(.int .i64 (x.cl)), (.int .i64 (x.seq))] : List Value) ++ hc x.h ++ ([(.int .i64 (x.len)), (.int .i64 (x.sb)), (.int .i64 (x.sm)), (.slice sa S.length sc)] : List Value)), rowC 23 1 (.slice a D.length c) D.length (D.flatMap encU)] W_ ∧ m_ = S.length - i) _ ⟨0, none, 0, [], (show ((.int .i64 (0)) : Value) = _ by first | rfl | go_num), (by first | rfl | go_num), (Nat.zero_le _), rfl, H5, rfl⟩ ?_
  rintro g6 w7 _ ⟨i, a, c, D, v9, v10, hi, hD, H8, rfl⟩
  refine wp_know 11 _ v9 ?_
  refine wp_know 3 _ v10 ?_
  have hDl : D.length = i := by rw [hD, times_len, List.length_take]; omega
  refine w_seq ?_
  refine w_lit ?_
  refine wl_pure (wants0 rfl) (d := 12) (v := (.bool (decide ((i : Int) < (S.length : Int))))) rfl (by kernel_rfl) ?_
  refine w_nil ?_
  refine then_normal ?_
  refine w_seq ?_
  refine (bsplit (decide ((i : Int) < (S.length : Int)))).elim (fun b12 => ?_) (fun b12 => ?_)
  · have g13 := of_decide_eq_true b12
    refine wp_know 12 (.bool true) (congrArg Value.bool b12) ?_
    have g14 := of_decide_eq_true b12
    refine wp_ift rfl ?_
    refine w_skip ?_
    refine then_normal ?_
    refine w_seq ?_
    refine w_block ?_
    refine w_seq ?_
    refine w_lit ?_
    obtain ⟨g15, o16, c17, e18, R19⟩ := SliceOf.atD hS stamp0 (show i < S.length by omega)
    refine wl_pure (wants0 rfl) (d := 13) (v := (.pointer (some ⟨g15, o16 + ((i : Int)).toNat * 38, none⟩))) rfl (e_indexAddrW (E := 49) (by kernel_rfl) (by kernel_rfl) (Nat.le_of_ble_eq_true rfl) rfl e18 rfl (by omega) (by omega)) ?_
    refine wl_pure (wants0 rfl) (d := 14) (v := (.agg ⟨(([(.int .i64 ((S.getD i stamp0).r)), (.int .i64 ((S.getD i stamp0).cl)), (.int .i64 ((S.getD i stamp0).seq))] : List Value) ++ hc (S.getD i stamp0).h ++ ([(.int .u64 ((S.getD i stamp0).t)), (.int .i64 ((S.getD i stamp0).sb)), (.int .i64 ((S.getD i stamp0).sm))] : List Value))⟩)) rfl (e_loadRun (vs := (([(.int .i64 ((S.getD i stamp0).r)), (.int .i64 ((S.getD i stamp0).cl)), (.int .i64 ((S.getD i stamp0).seq))] : List Value) ++ hc (S.getD i stamp0).h ++ ([(.int .u64 ((S.getD i stamp0).t)), (.int .i64 ((S.getD i stamp0).sb)), (.int .i64 ((S.getD i stamp0).sm))] : List Value))) rfl (by kernel_rfl) (by kernel_rfl) (Nat.le_of_ble_eq_true (by kernel_rfl)) (H8.runR 0 rfl (cells_run R19 0 (by kernel_rfl) (show o16 + ((i : Int)).toNat * 38 = o16 + i * 38 + 0 by omega)) (fun h => h))) ?_
    refine wl_do (wants0 rfl) (fun K20 hK20 => ?_)
    refine d_alloc (zs := (([(.int .i64 (0)), (.int .i64 (0)), (.int .i64 (0))] : List Value) ++ hc hash0 ++ ([(.int .u64 (0)), (.int .i64 (0)), (.int .i64 (0))] : List Value))) (z := (.agg ⟨(([(.int .i64 (0)), (.int .i64 (0)), (.int .i64 (0))] : List Value) ++ hc hash0 ++ ([(.int .u64 (0)), (.int .i64 (0)), (.int .i64 (0))] : List Value))⟩)) rfl H8 (by kernel_rfl) (by kernel_rfl) ?_
    intro b21 w22 (H23 : Sat w [restC w (fun _ => False), cellC b2 47 (([(.int .i64 (x.cl)), (.int .i64 (x.seq))] : List Value) ++ hc x.h ++ ([(.int .i64 (x.len)), (.int .i64 (x.sb)), (.int .i64 (x.sm)), (.slice sa S.length sc)] : List Value)), rowC 23 1 (.slice a D.length c) D.length (D.flatMap encU), cellC b21 49 (([(.int .i64 (0)), (.int .i64 (0)), (.int .i64 (0))] : List Value) ++ hc hash0 ++ ([(.int .u64 (0)), (.int .i64 (0)), (.int .i64 (0))] : List Value))] w22)
    refine hK20 _ _ ?_
    clear hK20 K20
    refine wl_do (wants0 rfl) (fun K24 hK24 => ?_)
    refine d_storeX (vs := (([(.int .i64 ((S.getD i stamp0).r)), (.int .i64 ((S.getD i stamp0).cl)), (.int .i64 ((S.getD i stamp0).seq))] : List Value) ++ hc (S.getD i stamp0).h ++ ([(.int .u64 ((S.getD i stamp0).t)), (.int .i64 ((S.getD i stamp0).sb)), (.int .i64 ((S.getD i stamp0).sm))] : List Value))) (cs' := (([(.int .i64 ((S.getD i stamp0).r)), (.int .i64 ((S.getD i stamp0).cl)), (.int .i64 ((S.getD i stamp0).seq))] : List Value) ++ hc (S.getD i stamp0).h ++ ([(.int .u64 ((S.getD i stamp0).t)), (.int .i64 ((S.getD i stamp0).sb)), (.int .i64 ((S.getD i stamp0).sm))] : List Value))) rfl H23 3 rfl rfl rfl rfl (by kernel_rfl) (Nat.le_of_ble_eq_true (by kernel_rfl)) (Nat.le_of_ble_eq_true (by kernel_rfl)) (by kernel_rfl) (by kernel_rfl) ?_
    intro w25 (H26 : Sat w [restC w (fun _ => False), cellC b2 47 (([(.int .i64 (x.cl)), (.int .i64 (x.seq))] : List Value) ++ hc x.h ++ ([(.int .i64 (x.len)), (.int .i64 (x.sb)), (.int .i64 (x.sm)), (.slice sa S.length sc)] : List Value)), rowC 23 1 (.slice a D.length c) D.length (D.flatMap encU), cellC b21 49 (([(.int .i64 ((S.getD i stamp0).r)), (.int .i64 ((S.getD i stamp0).cl)), (.int .i64 ((S.getD i stamp0).seq))] : List Value) ++ hc (S.getD i stamp0).h ++ ([(.int .u64 ((S.getD i stamp0).t)), (.int .i64 ((S.getD i stamp0).sb)), (.int .i64 ((S.getD i stamp0).sm))] : List Value))] w25)
    refine hK24 _ _ ?_
    clear hK24 K24
    refine w_nil ?_
    refine then_normal ?_
    refine w_lit ?_
    refine wl_pure (wants0 rfl) (d := 15) (v := (.slice a D.length c)) rfl (by kernel_rfl) ?_
    refine wl_pure (wants0 rfl) (d := 16) (v := (.pointer (some ⟨b21, 35, none⟩))) rfl (by kernel_rfl) ?_
    refine wl_pure (wants0 rfl) (d := 17) (v := (.int .u64 ((S.getD i stamp0).t))) rfl (e_load1 rfl (by kernel_rfl) (H26.cell 3 rfl (by kernel_rfl))) ?_
    refine wl_do (wants0 rfl) (fun K28 hK28 => ?_)
    refine d_buildSlice (e := 23) (size := 1) (bytes := 8) (z := (.int .u64 (0))) (pvs := [(0, (.int .u64 ((S.getD i stamp0).t)))]) (vs := ([(.int .u64 ((S.getD i stamp0).t))] : List Value)) rfl H26 (by kernel_rfl) (by kernel_rfl) (by kernel_rfl) (by kernel_rfl) (by kernel_rfl) rfl rfl ?_
    intro b29 w30 (H31 : Sat w [restC w (fun _ => False), cellC b2 47 (([(.int .i64 (x.cl)), (.int .i64 (x.seq))] : List Value) ++ hc x.h ++ ([(.int .i64 (x.len)), (.int .i64 (x.sb)), (.int .i64 (x.sm)), (.slice sa S.length sc)] : List Value)), rowC 23 1 (.slice a D.length c) D.length (D.flatMap encU), cellC b21 49 (([(.int .i64 ((S.getD i stamp0).r)), (.int .i64 ((S.getD i stamp0).cl)), (.int .i64 ((S.getD i stamp0).seq))] : List Value) ++ hc (S.getD i stamp0).h ++ ([(.int .u64 ((S.getD i stamp0).t)), (.int .i64 ((S.getD i stamp0).sb)), (.int .i64 ((S.getD i stamp0).sm))] : List Value)), rowC 23 1 (.slice (some ⟨b29, 0, none⟩) 1 1) 1 ([(.int .u64 ((S.getD i stamp0).t))] : List Value)] w30)
    have H32 : Sat w [restC w (fun _ => False), cellC b2 47 (([(.int .i64 (x.cl)), (.int .i64 (x.seq))] : List Value) ++ hc x.h ++ ([(.int .i64 (x.len)), (.int .i64 (x.sb)), (.int .i64 (x.sm)), (.slice sa S.length sc)] : List Value)), rowC 23 1 (.slice a D.length c) D.length (D.flatMap encU), cellC b21 49 (([(.int .i64 ((S.getD i stamp0).r)), (.int .i64 ((S.getD i stamp0).cl)), (.int .i64 ((S.getD i stamp0).seq))] : List Value) ++ hc (S.getD i stamp0).h ++ ([(.int .u64 ((S.getD i stamp0).t)), (.int .i64 ((S.getD i stamp0).sb)), (.int .i64 ((S.getD i stamp0).sm))] : List Value)), rowC 23 1 (.slice (some ⟨b29, 0, none⟩) 1 1) 1 ([(S.getD i stamp0).t].flatMap encU)] w30 := H31.cast (by rw [show (([(.int .u64 ((S.getD i stamp0).t))] : List Value) : List Value) = [(S.getD i stamp0).t].flatMap encU from rfl])
    refine hK28 _ _ ?_
    clear hK28 K28
    refine wl_do (wants0 rfl) (fun K33 hK33 => ?_)
    refine d_append (T := 22) (e := 23) (size := 1) (bytes := 8) rfl H32 (by kernel_rfl) 2 4 rfl rfl rfl rfl (flat_one encU encU_one [(S.getD i stamp0).t]) (by omega) (by omega) ?_
    intro v34 w35 (H36 : Sat w [restC w (fun _ => False), cellC b2 47 (([(.int .i64 (x.cl)), (.int .i64 (x.seq))] : List Value) ++ hc x.h ++ ([(.int .i64 (x.len)), (.int .i64 (x.sb)), (.int .i64 (x.sm)), (.slice sa S.length sc)] : List Value)), rowC 23 1 v34 (D.length + 1) ((D.flatMap encU) ++ ([(S.getD i stamp0).t].flatMap encU)), cellC b21 49 (([(.int .i64 ((S.getD i stamp0).r)), (.int .i64 ((S.getD i stamp0).cl)), (.int .i64 ((S.getD i stamp0).seq))] : List Value) ++ hc (S.getD i stamp0).h ++ ([(.int .u64 ((S.getD i stamp0).t)), (.int .i64 ((S.getD i stamp0).sb)), (.int .i64 ((S.getD i stamp0).sm))] : List Value)), rowC 23 1 (.slice (some ⟨b29, 0, none⟩) 1 1) 1 ([(S.getD i stamp0).t].flatMap encU)] w35)
    have H39 : Sat w [restC w (fun _ => False), cellC b2 47 (([(.int .i64 (x.cl)), (.int .i64 (x.seq))] : List Value) ++ hc x.h ++ ([(.int .i64 (x.len)), (.int .i64 (x.sb)), (.int .i64 (x.sm)), (.slice sa S.length sc)] : List Value)), rowC 23 1 v34 ((D ++ [(S.getD i stamp0).t]).length) ((D ++ [(S.getD i stamp0).t]).flatMap encU), cellC b21 49 (([(.int .i64 ((S.getD i stamp0).r)), (.int .i64 ((S.getD i stamp0).cl)), (.int .i64 ((S.getD i stamp0).seq))] : List Value) ++ hc (S.getD i stamp0).h ++ ([(.int .u64 ((S.getD i stamp0).t)), (.int .i64 ((S.getD i stamp0).sb)), (.int .i64 ((S.getD i stamp0).sm))] : List Value)), rowC 23 1 (.slice (some ⟨b29, 0, none⟩) 1 1) 1 ([(S.getD i stamp0).t].flatMap encU)] w35 := H36.cast (by simp only [List.length_append, List.flatMap_append] <;> rfl)
    obtain ⟨a37, c38, rfl⟩ := ownsRow_shape (H39.at 2 rfl)
    refine hK33 _ _ ?_
    clear hK33 K33
    refine wl_pure (wants0 rfl) (d := 3) (v := (.slice a37 ((D ++ [(S.getD i stamp0).t]).length) c38)) rfl (by kernel_rfl) ?_
    refine w_nil ?_
    refine blk_normal ?_
    refine then_normal ?_
    refine w_lit ?_
    refine wl_pure (wants0 rfl) (d := 20) (v := (.int .i64 ((i : Int) + 1))) rfl (e_int (z := (i : Int) + 1) (by kernel_rfl) (IntWalk.i64_in _ (by omega))) ?_
    refine wl_pure (wants0 rfl) (d := 11) (v := (.int .i64 ((i : Int) + 1))) rfl (by kernel_rfl) ?_
    refine w_nil ?_
    have hDl : D.length = i := by rw [hD, times_len, List.length_take]; omega
    have H40 : Sat w [restC w (fun _ => False), cellC b2 47 (([(.int .i64 (x.cl)), (.int .i64 (x.seq))] : List Value) ++ hc x.h ++ ([(.int .i64 (x.len)), (.int .i64 (x.sb)), (.int .i64 (x.sm)), (.slice sa S.length sc)] : List Value)), rowC 23 1 (.slice a37 ((D ++ [(S.getD i stamp0).t]).length) c38) ((D ++ [(S.getD i stamp0).t]).length) ((D ++ [(S.getD i stamp0).t]).flatMap encU)] w35 := H39.pick [0, 1, 2] (by decide)
    refine round_back ?_ _ ⟨(i + 1), a37, c38, (D ++ [(S.getD i stamp0).t]), (show ((.int .i64 ((i : Int) + 1)) : Value) = _ by first | rfl | go_num), (show ((.slice a37 ((D ++ [(S.getD i stamp0).t]).length) c38) : Value) = _ by first | rfl | go_num), (by omega), (by rw [hD, times_step S (by omega)]), H40, rfl⟩ (by omega)
    exact (same_upd rfl (same_upd rfl (same_upd rfl (same_upd rfl (same_upd rfl (same_upd rfl (same_upd rfl (same_upd rfl (same_upd rfl (same_upd rfl (same_upd rfl (same_upd rfl (same_upd rfl (same_upd rfl (same_upd rfl (same_ovr))))))))))))))))
  · have g41 := of_decide_eq_false b12
    refine wp_know 12 (.bool false) (congrArg Value.bool b12) ?_
    have g42 := of_decide_eq_false b12
    refine wp_iff rfl ?_
    refine w_exit ?_
    refine then_exit ?_
    refine back_exit ?_
    refine blk_hit ?_
    refine then_normal ?_
    refine w_seq ?_
    refine w_lit ?_
    refine wl_pure (wants0 rfl) (d := 22) (v := (.slice a D.length c)) rfl (by kernel_rfl) ?_
    refine wl_do (wants0 rfl) (fun K43 hK43 => ?_)
    refine d_call (d := 23) rfl (by kernel_rfl) (medC_any w7 (.slice a D.length c) D (ListAt.row (enc := encU) (sz := 1) encU_len (by decide) (H8.at 2 rfl)) (by omega)) ?_
    rintro _ w44 ⟨rfl, u46⟩
    have H45 := H8.keepU u46
    refine ⟨_, rfl, ?_⟩
    refine hK43 _ _ ?_
    clear hK43 K43
    refine wl_pure (wants0 rfl) (d := 21) (v := (.tuple #[(.int .u64 (medV D)), (.bool (decide (D.length % 2 = 1)))])) rfl (by kernel_rfl) ?_
    refine wl_pure (wants0 rfl) (d := 24) (v := (.int .u64 (medV D))) rfl (by kernel_rfl) ?_
    refine wl_pure (wants0 rfl) (d := 25) (v := (.bool (decide (D.length % 2 = 1)))) rfl (by kernel_rfl) ?_
    refine wl_pure (wants0 rfl) (d := 6) (v := (.int .u64 (medV D))) rfl (by kernel_rfl) ?_
    refine wl_pure (wants0 rfl) (d := 7) (v := (.bool (decide (D.length % 2 = 1)))) rfl (by kernel_rfl) ?_
    refine w_nil ?_
    refine then_normal ?_
    refine w_seq ?_
    refine w_lit ?_
    refine wl_pure (wants0 rfl) (d := 26) (v := (.int .u64 (medV D))) rfl (by kernel_rfl) ?_
    refine wl_pure (wants0 rfl) (d := 2) (v := (.int .u64 (medV D))) rfl (by kernel_rfl) ?_
    refine w_nil ?_
    refine then_normal ?_
    refine w_ret ?_
    refine end1 rfl (res_tmp (v := (.int .u64 (medV D))) rfl) ?_
    have hT : D = timesD S := by rw [hD, List.take_of_length_le (by omega)]
    exact ⟨by unfold timeD; rw [← hT], H45.upd 0 rfl [] (fun _ h => h.elim)⟩

end Go.Proofs.Ytbpeofcoceaahaa
namespace Go.Proofs.Ytbpeofcoceaahaa
open Go.RowKit
theorem ListAt.takeN {α : Type} {enc : α → List Value} {sz : Nat} {w : World} {a : Option Addr} {n c Q : Nat} {xs : List α} (h : ListAt enc sz w (.slice a n c) xs) (hQ : Q ≤ xs.length) : ListAt enc sz w (.slice a Q c) (xs.take Q) := ListAt.take h (by obtain ⟨_, _, e⟩ := SliceOf.len h; simp only [Value.slice.injEq] at e; omega)
theorem getD_memU {xs : List Int} {i : Nat} (h : i < xs.length) : xs.getD i 0 ∈ xs := by
  rw [List.getD_eq_getElem?_getD, List.getElem?_eq_getElem h]; exact List.getElem_mem h

set_option maxRecDepth 100000 in
set_option maxHeartbeats 400000 in
theorem copyS_any (w : World) (v : Value) (S : List StampD) (hS : ListAt encSt 38 w v S) (hx : S.length ≤ 1000000) :
    Calls Try.prog 34 #[(v)] w fun e w' => ∃ u, e = .returned u ∧ (rowC 49 38 u S.length (S.flatMap encSt)).ok w' ∧ Upd [] w w' ∧ ∀ b, (rowC 49 38 u S.length (S.flatMap encSt)).fp b → w.heap.size ≤ b := by
  have H := Sat.start0 w
  refine calls_fr Try.func34 rfl 5 rfl (Nat.le_of_ble_eq_true rfl) ?_
  refine w_seq ?_
  refine w_lit ?_
  refine wl_pure (wants0 rfl) (d := 2) (v := (.slice none 0 0)) rfl (by kernel_rfl) ?_
  refine w_nil ?_
  refine then_normal ?_
  refine w_seq ?_
  refine w_lit ?_
  refine wl_pure (wants0 rfl) (d := 3) (v := v) rfl (by kernel_rfl) ?_
  refine wl_do (wants0 rfl) (fun K1 hK1 => ?_)
  refine d_appendNilL (T := 45) (e := 49) (size := 38) (bytes := 80) rfl H (by kernel_rfl) encSt_len encSt_one (ListAt.now H 0 rfl hS) rfl rfl (by omega) (by omega) ?_
  intro v2 w3 (H4 : Sat w [restC w (fun _ => False), rowC 49 38 v2 S.length (S.flatMap encSt)] w3)
  obtain ⟨a5, c6, rfl⟩ := ownsRow_shape (H4.at 1 rfl)
  refine hK1 _ _ ?_
  clear hK1 K1
  refine wl_pure (wants0 rfl) (d := 2) (v := (.slice a5 S.length c6)) rfl (by kernel_rfl) ?_
  refine w_nil ?_
  refine then_normal ?_
  refine w_ret ?_
  refine end1 rfl (res_tmp (v := (.slice a5 S.length c6)) rfl) ?_
  exact ⟨_, rfl, H4.at 1 rfl, H4.upd 0 rfl [] (fun _ h => h.elim), H4.fresh 0 rfl (fun _ h => h) 1 rfl rfl⟩

theorem wRightX_at (w : World) (f cn : Int) (hf : -1099511627776 ≤ f ∧ f ≤ 1099511627776) (b mb : Nat) (L : List Signed) (hb : (cellC b 107 [.map (some mb)]).ok w) (hm : MapAt w mb signedV (Value.int .i64) (marks L)) (x : CommitD) (hx : CoOk x) (v : Value) (S : List StampD) (hS : ListAt encSt 38 w v S) (hok : StsOk S) (hlS : S.length ≤ 1000000) :
    Calls Try.prog 20 #[.agg ⟨[.int .i64 f, .int .i64 cn]⟩, .pointer (some ⟨b, 0, none⟩), .agg ⟨encCo x ++ [v]⟩] w fun e w' => e = .returned (.bool (rightX f cn L x S)) ∧ Upd [] w w' := by
  obtain ⟨a, c, rfl⟩ := SliceOf.len hS
  exact wRightX_any w f cn hf b mb L hb hm x hx a c S hS hok hlS

theorem wMakeG_at (w : World) (f cn : Int) (x : CommitD) (N Q : Nat) (hN : (N : Int) = 3 * f + 1) (hQ : (Q : Int) = 2 * f + 1) (hf : 1 ≤ f ∧ f ≤ 5) (v : Value) (S : List StampD) (hS : ListAt encSt 38 w v S) (hlS : S.length ≤ 1000) (hlo : (outS f x S).length ≤ 12) :
    Calls Try.prog 31 #[.agg ⟨[.int .i64 f, .int .i64 cn]⟩, .agg ⟨encCo x⟩, v] w fun e w' => (e = .returned (.tuple #[.agg ⟨encCo commit0 ++ [.slice none 0 0]⟩, .int .i64 8]) ∧ (refS x S N).length < Q ∧ Upd [] w w') ∨ ∃ g c, e = .returned (.tuple #[.agg ⟨encCo x ++ [.slice (some ⟨g, 0, none⟩) Q c]⟩, .int .i64 0]) ∧ Q ≤ (refS x S N).length ∧ (rowC 49 38 (.slice (some ⟨g, 0, none⟩) (refS x S N).length c) (refS x S N).length ((refS x S N).flatMap encSt)).ok w' ∧ Upd [] w w' ∧ w.heap.size ≤ g := by
  obtain ⟨a, c, rfl⟩ := SliceOf.len hS
  exact wMakeG_any w f cn x N Q hN hQ hf a c S hS hlS hlo

theorem wTime_at (w : World) (x : CommitD) (v : Value) (S : List StampD) (hS : ListAt encSt 38 w v S) (hlS : S.length ≤ 12) : Calls Try.prog 22 #[.agg ⟨encCo x ++ [v]⟩] w fun e w' => e = .returned (.int .u64 (timeD S)) ∧ Upd [] w w' := by
  obtain ⟨a, c, rfl⟩ := SliceOf.len hS
  exact wTime_any w x a c S hS hlS

set_option maxRecDepth 100000 in
set_option maxHeartbeats 4000000 in
theorem spans10_walk (w : World) (f : Int) (va : Option Addr) (vc : Nat) (xs : List Int) (hxs : ListAt encU 1 w (.slice va xs.length vc) xs) (hbd : ∀ x ∈ xs, 0 ≤ x ∧ x ≤ 18446744073709551615) (ra_ : Option Addr) (rc_ : Nat) (R : List Int) (hR : IntsAt w (.slice ra_ R.length rc_) R) :
    Calls Try.prog 10 #[(.int .i64 (f)), (.slice va xs.length vc), (.slice ra_ R.length rc_)] w fun e w' => e = .returned (.bool true) ∧ Upd [] w w' := by
  have hwf := within_lim f 4 (by omega)
  have H := Sat.start0 w
  refine calls_fr Try.func10 rfl 127 rfl (Nat.le_of_ble_eq_true rfl) ?_
  refine w_seq ?_
  refine w_lit ?_
  refine wl_pure (wants0 rfl) (d := 6) (v := (.bool false)) rfl (by kernel_rfl) ?_
  refine w_nil ?_
  refine then_normal ?_
  refine w_seq ?_
  refine w_lit ?_
  refine wl_pure (wants0 rfl) (d := 22) (v := (.int .i64 (f))) rfl (by kernel_rfl) ?_
  refine wl_do (wants0 rfl) (fun K1 hK1 => ?_)
  refine d_call (d := 23) rfl (by kernel_rfl) (within_any w f 4 (by omega)) ?_
  rintro _ w2 ⟨rfl, u4⟩
  have H3 := H.keepU u4
  refine ⟨_, rfl, ?_⟩
  refine hK1 _ _ ?_
  clear hK1 K1
  refine wl_pure (wants0 rfl) (d := 24) (v := (.int .i64 (1 + (withinV f 4)))) rfl (e_int (z := 1 + (withinV f 4)) (by kernel_rfl) (IntWalk.i64_in _ (by omega))) ?_
  refine wl_pure (wants0 rfl) (d := 25) (v := (.agg ⟨([(.int .i64 (1 + (withinV f 4))), (.int .i64 (1))] : List Value)⟩)) rfl (by kernel_rfl) ?_
  refine wl_do (wants0 rfl) (fun K5 hK5 => ?_)
  refine d_alloc (zs := ([(.int .i64 (0)), (.int .i64 (0))] : List Value)) (z := (.agg ⟨([(.int .i64 (0)), (.int .i64 (0))] : List Value)⟩)) rfl H3 (by kernel_rfl) (by kernel_rfl) ?_
  intro b6 w7 (H8 : Sat w [restC w (fun _ => False), cellC b6 36 ([(.int .i64 (0)), (.int .i64 (0))] : List Value)] w7)
  refine hK5 _ _ ?_
  clear hK5 K5
  refine wl_do (wants0 rfl) (fun K9 hK9 => ?_)
  refine d_storeX (vs := ([(.int .i64 (1 + (withinV f 4))), (.int .i64 (1))] : List Value)) (cs' := ([(.int .i64 (1 + (withinV f 4))), (.int .i64 (1))] : List Value)) rfl H8 1 rfl rfl rfl rfl (by kernel_rfl) (Nat.le_of_ble_eq_true (by kernel_rfl)) (Nat.le_of_ble_eq_true (by kernel_rfl)) (by kernel_rfl) (by kernel_rfl) ?_
  intro w10 (H11 : Sat w [restC w (fun _ => False), cellC b6 36 ([(.int .i64 (1 + (withinV f 4))), (.int .i64 (1))] : List Value)] w10)
  refine hK9 _ _ ?_
  clear hK9 K9
  refine w_nil ?_
  refine then_normal ?_
  refine w_seq ?_
  obtain ⟨F, hF⟩ : ∃ F : Int, F = 1 + withinV f 4 := ⟨_, rfl⟩
  have hf : 1 ≤ F ∧ F ≤ 4 := by omega
  obtain ⟨N, hN⟩ : ∃ N : Nat, (N : Int) = 3 * F + 1 := ⟨(3 * F + 1).toNat, by omega⟩
  obtain ⟨Q, hQ⟩ : ∃ Q : Nat, (Q : Int) = 2 * F + 1 := ⟨(2 * F + 1).toNat, by omega⟩
  have H13 : Sat w [restC w (fun _ => False), cellC b6 36 ([(.int .i64 (F)), (.int .i64 (1))] : List Value)] w10 := by rw [hF]; exact H11
  refine w_lit ?_
  refine wl_do (wants0 rfl) (fun K14 hK14 => ?_)
  refine d_call (d := 27) rfl (by kernel_rfl) (new10_any w10) ?_
  rintro _ w15 ⟨b16, m17, r18, rfl, k19, p20, q21⟩
  have H22 : Sat w [restC w (fun _ => False), cellC b6 36 ([(.int .i64 (F)), (.int .i64 (1))] : List Value), sepC [cellC b16 107 [.map (some m17)], mapC m17 signedV (Value.int .i64) (marks []), cellC r18 88 [.slice none 0 0]]] w15 := H13.addU p20 k19 q21
  have H23 : Sat w [restC w (fun _ => False), cellC b6 36 ([(.int .i64 (F)), (.int .i64 (1))] : List Value), cellC b16 107 ([(.map (some m17))] : List Value), mapC m17 signedV (Value.int .i64) (marks []), cellC r18 88 ([(.slice none (([] : List Signed).length) 0)] : List Value)] w15 := H22.open 2 rfl
  have H24 : Sat w [restC w (fun _ => False), cellC b6 36 ([(.int .i64 (F)), (.int .i64 (1))] : List Value), cellC b16 107 ([(.map (some m17))] : List Value), mapC m17 signedV (Value.int .i64) (marks []), cellC r18 88 ([(.slice none (([] : List Signed).length) 0)] : List Value), rowC 120 2 (.slice none (([] : List Signed).length) 0) (([] : List Signed).length) (([] : List Signed).flatMap encS)] w15 := H23.addNil 120 2
  refine ⟨_, rfl, ?_⟩
  refine hK14 _ _ ?_
  clear hK14 K14
  refine wl_pure (wants0 rfl) (d := 26) (v := (.tuple #[(.agg ⟨([(.pointer (some ⟨b16, 0, none⟩)), (.pointer (some ⟨r18, 0, none⟩))] : List Value)⟩), (.bool true)])) rfl (by kernel_rfl) ?_
  refine wl_pure (wants0 rfl) (d := 28) (v := (.agg ⟨([(.pointer (some ⟨b16, 0, none⟩)), (.pointer (some ⟨r18, 0, none⟩))] : List Value)⟩)) rfl (by kernel_rfl) ?_
  refine wl_pure (wants0 rfl) (d := 29) (v := (.bool true)) rfl (by kernel_rfl) ?_
  refine wl_do (wants0 rfl) (fun K25 hK25 => ?_)
  refine d_alloc (zs := ([(.pointer none), (.pointer none)] : List Value)) (z := (.agg ⟨([(.pointer none), (.pointer none)] : List Value)⟩)) rfl H24 (by kernel_rfl) (by kernel_rfl) ?_
  intro b26 w27 (H28 : Sat w [restC w (fun _ => False), cellC b6 36 ([(.int .i64 (F)), (.int .i64 (1))] : List Value), cellC b16 107 ([(.map (some m17))] : List Value), mapC m17 signedV (Value.int .i64) (marks []), cellC r18 88 ([(.slice none (([] : List Signed).length) 0)] : List Value), rowC 120 2 (.slice none (([] : List Signed).length) 0) (([] : List Signed).length) (([] : List Signed).flatMap encS), cellC b26 54 ([(.pointer none), (.pointer none)] : List Value)] w27)
  refine hK25 _ _ ?_
  clear hK25 K25
  refine wl_do (wants0 rfl) (fun K29 hK29 => ?_)
  refine d_storeX (vs := ([(.pointer (some ⟨b16, 0, none⟩)), (.pointer (some ⟨r18, 0, none⟩))] : List Value)) (cs' := ([(.pointer (some ⟨b16, 0, none⟩)), (.pointer (some ⟨r18, 0, none⟩))] : List Value)) rfl H28 6 rfl rfl rfl rfl (by kernel_rfl) (Nat.le_of_ble_eq_true (by kernel_rfl)) (Nat.le_of_ble_eq_true (by kernel_rfl)) (by kernel_rfl) (by kernel_rfl) ?_
  intro w30 (H31 : Sat w [restC w (fun _ => False), cellC b6 36 ([(.int .i64 (F)), (.int .i64 (1))] : List Value), cellC b16 107 ([(.map (some m17))] : List Value), mapC m17 signedV (Value.int .i64) (marks []), cellC r18 88 ([(.slice none (([] : List Signed).length) 0)] : List Value), rowC 120 2 (.slice none (([] : List Signed).length) 0) (([] : List Signed).length) (([] : List Signed).flatMap encS), cellC b26 54 ([(.pointer (some ⟨b16, 0, none⟩)), (.pointer (some ⟨r18, 0, none⟩))] : List Value)] w30)
  refine hK29 _ _ ?_
  clear hK29 K29
  refine wl_pure (wants0 rfl) (d := 9) (v := (.bool true)) rfl (by kernel_rfl) ?_
  refine w_nil ?_
  refine then_normal ?_
  refine w_seq ?_
  refine w_seq ?_
  have hnil : ([] : List Signed).length = 0 := rfl
  refine w_lit ?_
  refine wl_pure (wants0 rfl) (d := 30) (v := (.bool true)) rfl (by kernel_rfl) ?_
  refine wl_pure (wants0 rfl) (d := 31) (v := (.bool false)) rfl (by kernel_rfl) ?_
  refine w_nil ?_
  refine then_normal ?_
  refine wp_iff rfl ?_
  refine w_skip ?_
  refine then_normal ?_
  refine w_seq ?_
  refine w_lit ?_
  refine wl_pure (wants0 rfl) (d := 32) (v := (.agg ⟨([(.pointer (some ⟨b16, 0, none⟩)), (.pointer (some ⟨r18, 0, none⟩))] : List Value)⟩)) rfl (e_loadN (vs := ([(.pointer (some ⟨b16, 0, none⟩)), (.pointer (some ⟨r18, 0, none⟩))] : List Value)) rfl (by kernel_rfl) (by kernel_rfl) (by exact Nat.le_of_ble_eq_true (by kernel_rfl)) (H31.at 6 rfl) (by kernel_rfl)) ?_
  refine wl_pure (wants0 rfl) (d := 33) (v := (.agg ⟨([(.int .i64 (0)), (.int .i64 (1))] : List Value)⟩)) rfl (by kernel_rfl) ?_
  refine wl_do (wants0 rfl) (fun K33 hK33 => ?_)
  refine d_call (d := 34) rfl (by kernel_rfl) (bkCommit_any w30 b16 m17 r18 none 0 ([] : List Signed) (H31.fin [2, 3, 4, 5] (by decide) rfl) 0 1 none 0 ([] : List UInt8) ListAt.nil (fun h => absurd h (Nat.lt_irrefl 0)) (by decide) (by omega) (by omega) (by omega) List.nodup_nil) ?_
  rintro _ w34 ⟨a36, c37, rfl, T35⟩
  obtain ⟨L39, hL39⟩ : ∃ L39 : List Signed, L39 = signL ([] : List Signed) (yC 0 1 hash0 ([] : List UInt8)) := ⟨_, rfl⟩
  rw [← hL39] at T35
  have H40 : Sat w [restC w (fun _ => False), cellC b6 36 ([(.int .i64 (F)), (.int .i64 (1))] : List Value), cellC b16 107 ([(.map (some m17))] : List Value), mapC m17 signedV (Value.int .i64) (marks L39), cellC r18 88 ([(.slice a36 L39.length c37)] : List Value), rowC 120 2 (.slice a36 L39.length c37) L39.length (L39.flatMap encS), cellC b26 54 ([(.pointer (some ⟨b16, 0, none⟩)), (.pointer (some ⟨r18, 0, none⟩))] : List Value)] w34 := (Sat.turnL (L' := [cellC b16 107 ([(.map (some m17))] : List Value), mapC m17 signedV (Value.int .i64) (marks L39), cellC r18 88 ([(.slice a36 L39.length c37)] : List Value), rowC 120 2 (.slice a36 L39.length c37) L39.length (L39.flatMap encS)]) (R := [restC w (fun _ => False), cellC b6 36 ([(.int .i64 (F)), (.int .i64 (1))] : List Value), cellC b26 54 ([(.pointer (some ⟨b16, 0, none⟩)), (.pointer (some ⟨r18, 0, none⟩))] : List Value)]) H31 [2, 3, 4, 5] [0, 1, 6] (by decide) (by kernel_rfl) rfl T35).pick [4, 5, 0, 1, 2, 3, 6] (by decide)
  refine ⟨_, rfl, ?_⟩
  obtain ⟨Y38, hY38⟩ : ∃ Y38 : CommitD, Y38 = mkC ([] : List Signed) 0 1 hash0 ([] : List UInt8) := ⟨_, rfl⟩
  rw [← hY38]
  have hgY38 : GoodC L39 Y38 := by rw [hL39, hY38]; exact goodC_new _ _ _ _ _
  have ndL39 : L39.Nodup := by rw [hL39]; exact signL_nodup List.nodup_nil _
  have llL39 : L39.length ≤ ([] : List Signed).length + 1 := by rw [hL39]; exact signL_len _ _
  have clY38 : Y38.cl = 0 := by rw [hY38]; rfl
  have sqY38 : Y38.seq = 1 := by rw [hY38]; rfl
  have lnY38 : Y38.len = ([] : List UInt8).length := by rw [hY38]; rfl
  refine hK33 _ _ ?_
  clear hK33 K33
  refine wl_do (wants0 rfl) (fun K41 hK41 => ?_)
  refine d_alloc (zs := (([(.int .i64 (0)), (.int .i64 (0))] : List Value) ++ hc hash0 ++ ([(.int .i64 (0)), (.int .i64 (0)), (.int .i64 (0))] : List Value))) (z := (.agg ⟨(([(.int .i64 (0)), (.int .i64 (0))] : List Value) ++ hc hash0 ++ ([(.int .i64 (0)), (.int .i64 (0)), (.int .i64 (0))] : List Value))⟩)) rfl H40 (by kernel_rfl) (by kernel_rfl) ?_
  intro b42 w43 (H44 : Sat w [restC w (fun _ => False), cellC b6 36 ([(.int .i64 (F)), (.int .i64 (1))] : List Value), cellC b16 107 ([(.map (some m17))] : List Value), mapC m17 signedV (Value.int .i64) (marks L39), cellC r18 88 ([(.slice a36 L39.length c37)] : List Value), rowC 120 2 (.slice a36 L39.length c37) L39.length (L39.flatMap encS), cellC b26 54 ([(.pointer (some ⟨b16, 0, none⟩)), (.pointer (some ⟨r18, 0, none⟩))] : List Value), cellC b42 44 (([(.int .i64 (0)), (.int .i64 (0))] : List Value) ++ hc hash0 ++ ([(.int .i64 (0)), (.int .i64 (0)), (.int .i64 (0))] : List Value))] w43)
  refine hK41 _ _ ?_
  clear hK41 K41
  refine wl_do (wants0 rfl) (fun K45 hK45 => ?_)
  refine d_storeX (vs := (([(.int .i64 (Y38.cl)), (.int .i64 (Y38.seq))] : List Value) ++ hc Y38.h ++ ([(.int .i64 (Y38.len)), (.int .i64 (Y38.sb)), (.int .i64 (Y38.sm))] : List Value))) (cs' := (([(.int .i64 (Y38.cl)), (.int .i64 (Y38.seq))] : List Value) ++ hc Y38.h ++ ([(.int .i64 (Y38.len)), (.int .i64 (Y38.sb)), (.int .i64 (Y38.sm))] : List Value))) rfl H44 7 rfl rfl rfl rfl (by kernel_rfl) (Nat.le_of_ble_eq_true (by kernel_rfl)) (Nat.le_of_ble_eq_true (by kernel_rfl)) (by kernel_rfl) (by kernel_rfl) ?_
  intro w46 (H47 : Sat w [restC w (fun _ => False), cellC b6 36 ([(.int .i64 (F)), (.int .i64 (1))] : List Value), cellC b16 107 ([(.map (some m17))] : List Value), mapC m17 signedV (Value.int .i64) (marks L39), cellC r18 88 ([(.slice a36 L39.length c37)] : List Value), rowC 120 2 (.slice a36 L39.length c37) L39.length (L39.flatMap encS), cellC b26 54 ([(.pointer (some ⟨b16, 0, none⟩)), (.pointer (some ⟨r18, 0, none⟩))] : List Value), cellC b42 44 (([(.int .i64 (Y38.cl)), (.int .i64 (Y38.seq))] : List Value) ++ hc Y38.h ++ ([(.int .i64 (Y38.len)), (.int .i64 (Y38.sb)), (.int .i64 (Y38.sm))] : List Value))] w46)
  refine hK45 _ _ ?_
  clear hK45 K45
  refine w_nil ?_
  refine then_normal ?_
  refine w_seq ?_
  refine w_lit ?_
  refine wl_pure (wants0 rfl) (d := 35) (v := (.pointer (some ⟨b6, 0, none⟩))) rfl (by kernel_rfl) ?_
  refine wl_pure (wants0 rfl) (d := 36) (v := (.int .i64 (F))) rfl (e_load1 rfl (by kernel_rfl) (H47.cell 1 rfl rfl)) ?_
  refine wl_pure (wants0 rfl) (d := 37) (v := (.int .i64 (3 * F))) rfl (e_int (z := 3 * F) (by kernel_rfl) (IntWalk.i64_in _ (by omega))) ?_
  refine wl_pure (wants0 rfl) (d := 38) (v := (.int .i64 ((3 * F) + 1))) rfl (e_int (z := (3 * F) + 1) (by kernel_rfl) (IntWalk.i64_in _ (by omega))) ?_
  refine wl_pure (wants0 rfl) (d := 11) (v := (.int .i64 ((3 * F) + 1))) rfl (by kernel_rfl) ?_
  refine w_nil ?_
  refine then_normal ?_
  refine w_seq ?_
  refine wp_know 11 (.int .i64 ((N : Int))) (show ((.int .i64 ((3 * F) + 1)) : Value) = _ by rw [hN]) ?_
  have hokY : CoOk Y38 := ⟨by omega, by omega, by simp only [List.length_nil] at lnY38; omega⟩
  refine w_lit ?_
  refine wl_pure (wants0 rfl) (d := 12) (v := (.slice none 0 0)) rfl (by kernel_rfl) ?_
  refine w_nil ?_
  refine then_normal ?_
  refine w_seq ?_
  refine w_lit ?_
  refine wl_pure (wants0 rfl) (d := 13) (v := (.int .u64 (18446744073709551615))) rfl (by kernel_rfl) ?_
  refine wl_pure (wants0 rfl) (d := 14) (v := (.int .u64 (0))) rfl (by kernel_rfl) ?_
  refine w_nil ?_
  refine then_normal ?_
  refine w_seq ?_
  refine w_seq ?_
  refine w_lit ?_
  refine wl_pure (wants0 rfl) (d := 15) (v := (.int .i64 (0))) rfl (by kernel_rfl) ?_
  refine w_nil ?_
  refine then_normal ?_
  refine w_block ?_
  have H49 := H47.addNil 49 38
  refine wp_round [12, 13, 14, 15, 16, 39, 40, 41, 42, 43, 44, 45, 46, 47, 48, 49, 50, 51, 52, 53, 54, 55, 56, 57, 58, 59, 60, 61, 62, 63, 64, 65, 66, 67] (fun F_ W_ m_ => ∃ (i : Nat) (a : Option Addr) (c : Nat) (D : List StampD) (ra : Option Addr) (rc : Nat) (L : List Signed) (lo hi : Int), F_ 15 = (.int .i64 ((i : Int))) ∧ F_ 12 = (.slice a D.length c) ∧ F_ 13 = (.int .u64 (lo)) ∧ F_ 14 = (.int .u64 (hi)) ∧ (i ≤ N) ∧ (SInv Y38 N L D i lo hi) ∧ (GoodC L Y38) ∧ (L.Nodup) ∧ (L.length ≤ 2 + 2 * i) ∧ (D.length = i) ∧ Sat w [restC w (fun _ => False), cellC b6 36 ([(.int .i64 (F)), (.int .i64 (1))] : List Value), cellC b16 107 ([(.map (some m17))] : List Value), mapC m17 signedV (Value.int .i64) (marks L), cellC r18 88 ([(.slice ra L.length rc)] : List Value), rowC 120 2 (.slice ra L.length rc) L.length (L.flatMap encS), cellC b26 54 ([(.pointer (some ⟨b16, 0, none⟩)), (.pointer (some ⟨r18, 0, none⟩))] : List Value), cellC b42 44 (([(.int .i64 (Y38.cl)), (.int .i64 (Y38.seq))] : List Value) ++ hc Y38.h ++ ([(.int .i64 (Y38.len)), (.int .i64 (Y38.sb)), (.int .i64 (Y38.sm))] : List Value)), rowC 49 38 (.slice a D.length c) D.length (D.flatMap encSt)] W_ ∧ m_ = N - i) _ ⟨0, none, 0, [], a36, c37, L39, 18446744073709551615, 0, (show ((.int .i64 (0)) : Value) = _ by first | rfl | go_num), (by first | rfl | go_num), (show ((.int .u64 (18446744073709551615)) : Value) = _ by first | rfl | go_num), (show ((.int .u64 (0)) : Value) = _ by first | rfl | go_num), (Nat.zero_le _), (SInv.start _ _ _ _ _), hgY38, ndL39, (by omega), rfl, H49, rfl⟩ ?_
  rintro g50 w51 _ ⟨i, a, c, D, ra, rc, L, lo, hi, v53, v54, v55, v56, hin, hI, hgc, hnd, hLl, hDl, H52, rfl⟩
  refine wp_know 15 _ v53 ?_
  refine wp_know 12 _ v54 ?_
  refine wp_know 13 _ v55 ?_
  refine wp_know 14 _ v56 ?_
  refine w_seq ?_
  refine w_seq ?_
  refine w_lit ?_
  refine wl_pure (wants0 rfl) (d := 39) (v := (.int .i64 ((i : Int)))) rfl (by kernel_rfl) ?_
  refine wl_pure (wants0 rfl) (d := 40) (v := (.int .i64 ((N : Int)))) rfl (by kernel_rfl) ?_
  refine wl_pure (wants0 rfl) (d := 41) (v := (.bool (decide ((i : Int) < (N : Int))))) rfl (by kernel_rfl) ?_
  refine w_nil ?_
  refine then_normal ?_
  refine (bsplit (decide ((i : Int) < (N : Int)))).elim (fun b58 => ?_) (fun b58 => ?_)
  · have g59 := of_decide_eq_true b58
    refine wp_know 41 (.bool true) (congrArg Value.bool b58) ?_
    have g60 := of_decide_eq_true b58
    refine wp_ift rfl ?_
    refine w_skip ?_
    refine then_normal ?_
    refine w_seq ?_
    refine w_block ?_
    refine w_seq ?_
    refine w_lit ?_
    refine wl_pure (wants0 rfl) (d := 16) (v := (.int .u64 (9))) rfl (by kernel_rfl) ?_
    refine w_nil ?_
    refine then_normal ?_
    refine w_seq ?_
    refine w_seq ?_
    refine w_lit ?_
    refine wl_pure (wants0 rfl) (d := 44) (v := (.int .i64 ((i : Int)))) rfl (by kernel_rfl) ?_
    refine wl_pure (wants0 rfl) (d := 45) (v := (.slice va xs.length vc)) rfl (by kernel_rfl) ?_
    refine wl_pure (wants0 rfl) (d := 46) (v := (.int .i64 ((xs.length : Int)))) rfl (by kernel_rfl) ?_
    refine wl_pure (wants0 rfl) (d := 47) (v := (.bool (decide ((i : Int) < (xs.length : Int))))) rfl (by kernel_rfl) ?_
    refine w_nil ?_
    refine then_normal ?_
    refine (bsplit (decide ((i : Int) < (xs.length : Int)))).elim (fun b61 => ?_) (fun b61 => ?_)
    · have g62 := of_decide_eq_true b61
      refine wp_know 47 (.bool true) (congrArg Value.bool b61) ?_
      have g63 := of_decide_eq_true b61
      refine wp_ift rfl ?_
      have hx0 : 0 ≤ xs.getD i 0 := (hbd _ (getD_memU (by omega))).1
      refine w_lit ?_
      refine wl_pure (wants0 rfl) (d := 48) (v := (.slice va xs.length vc)) rfl (by kernel_rfl) ?_
      refine wl_pure (wants0 rfl) (d := 49) (v := (.int .i64 ((i : Int)))) rfl (by kernel_rfl) ?_
      obtain ⟨g64, o65, c66, e67, R68⟩ := SliceOf.atD hxs 0 (show i < xs.length by omega)
      refine wl_pure (wants0 rfl) (d := 50) (v := (.pointer (some ⟨g64, o65 + ((i : Int)).toNat * 1, none⟩))) rfl (e_indexAddrW (E := 23) (by kernel_rfl) (by kernel_rfl) (Nat.le_of_ble_eq_true rfl) rfl e67 rfl (by omega) (by omega)) ?_
      refine wl_pure (wants0 rfl) (d := 51) (v := (.int .u64 ((xs.getD i 0)))) rfl (e_load1 rfl (by kernel_rfl) (H52.cellR 0 rfl (cells_at R68 0 (by kernel_rfl) (show o65 + ((i : Int)).toNat * 1 = o65 + i * 1 + 0 by omega)) (fun h => h))) ?_
      refine wl_pure (wants0 rfl) (d := 52) (v := (.int .u64 ((xs.getD i 0) % 5000))) rfl (e_rem (by kernel_rfl) (by omega) (by omega)) ?_
      refine wl_pure (wants0 rfl) (d := 53) (v := (.int .u64 (1 + ((xs.getD i 0) % 5000)))) rfl (e_int (z := 1 + ((xs.getD i 0) % 5000)) (by kernel_rfl) (wrap_u64 (by omega))) ?_
      refine wl_pure (wants0 rfl) (d := 16) (v := (.int .u64 (1 + ((xs.getD i 0) % 5000)))) rfl (by kernel_rfl) ?_
      refine w_nil ?_
      refine then_normal ?_
      refine w_seq ?_
      refine w_lit ?_
      refine wl_pure (wants0 rfl) (d := 54) (v := (.int .u64 (lo))) rfl (by kernel_rfl) ?_
      refine wl_pure (wants0 rfl) (d := 55) (v := (.int .u64 (1 + ((xs.getD i 0) % 5000)))) rfl (by kernel_rfl) ?_
      refine wl_pure (wants0 rfl) (d := 56) (v := (.int .u64 (min lo (1 + ((xs.getD i 0) % 5000))))) rfl (e_minI (k := .u64) (a := lo) (b := 1 + ((xs.getD i 0) % 5000)) (z := min lo (1 + ((xs.getD i 0) % 5000))) rfl rfl rfl) ?_
      refine wl_pure (wants0 rfl) (d := 57) (v := (.int .u64 (hi))) rfl (by kernel_rfl) ?_
      refine wl_pure (wants0 rfl) (d := 58) (v := (.int .u64 (1 + ((xs.getD i 0) % 5000)))) rfl (by kernel_rfl) ?_
      refine wl_pure (wants0 rfl) (d := 59) (v := (.int .u64 (max hi (1 + ((xs.getD i 0) % 5000))))) rfl (e_maxI (k := .u64) (a := hi) (b := 1 + ((xs.getD i 0) % 5000)) (z := max hi (1 + ((xs.getD i 0) % 5000))) rfl rfl rfl) ?_
      refine wl_pure (wants0 rfl) (d := 13) (v := (.int .u64 (min lo (1 + ((xs.getD i 0) % 5000))))) rfl (by kernel_rfl) ?_
      refine wl_pure (wants0 rfl) (d := 14) (v := (.int .u64 (max hi (1 + ((xs.getD i 0) % 5000))))) rfl (by kernel_rfl) ?_
      refine w_nil ?_
      refine then_normal ?_
      refine w_lit ?_
      refine wl_pure (wants0 rfl) (d := 60) (v := (.slice a D.length c)) rfl (by kernel_rfl) ?_
      refine wl_pure (wants0 rfl) (d := 61) (v := (.agg ⟨([(.pointer (some ⟨b16, 0, none⟩)), (.pointer (some ⟨r18, 0, none⟩))] : List Value)⟩)) rfl (e_loadN (vs := ([(.pointer (some ⟨b16, 0, none⟩)), (.pointer (some ⟨r18, 0, none⟩))] : List Value)) rfl (by kernel_rfl) (by kernel_rfl) (by exact Nat.le_of_ble_eq_true (by kernel_rfl)) (H52.at 6 rfl) (by kernel_rfl)) ?_
      refine wl_pure (wants0 rfl) (d := 62) (v := (.int .i64 ((i : Int)))) rfl (by kernel_rfl) ?_
      refine wl_pure (wants0 rfl) (d := 63) (v := (.agg ⟨(([(.int .i64 (Y38.cl)), (.int .i64 (Y38.seq))] : List Value) ++ hc Y38.h ++ ([(.int .i64 (Y38.len)), (.int .i64 (Y38.sb)), (.int .i64 (Y38.sm))] : List Value))⟩)) rfl (e_loadN (vs := (([(.int .i64 (Y38.cl)), (.int .i64 (Y38.seq))] : List Value) ++ hc Y38.h ++ ([(.int .i64 (Y38.len)), (.int .i64 (Y38.sb)), (.int .i64 (Y38.sm))] : List Value))) rfl (by kernel_rfl) (by kernel_rfl) (by exact Nat.le_of_ble_eq_true (by kernel_rfl)) (H52.at 7 rfl) (by kernel_rfl)) ?_
      refine wl_pure (wants0 rfl) (d := 64) (v := (.int .u64 (1 + ((xs.getD i 0) % 5000)))) rfl (by kernel_rfl) ?_
      refine wl_do (wants0 rfl) (fun K69 hK69 => ?_)
      refine d_call (d := 65) rfl (by kernel_rfl) (bkStamp_any w51 b16 m17 r18 ra rc L (H52.fin [2, 3, 4, 5] (by decide) rfl) (i : Int) Y38 (1 + ((xs.getD i 0) % 5000)) (by omega) hokY (by omega) (by omega) hnd) ?_
      rintro _ w70 ⟨a72, c73, rfl, T71⟩
      obtain ⟨L75, hL75⟩ : ∃ L75 : List Signed, L75 = signL L (yS (i : Int) Y38 (1 + ((xs.getD i 0) % 5000))) := ⟨_, rfl⟩
      rw [← hL75] at T71
      have H76 : Sat w [restC w (fun _ => False), cellC b6 36 ([(.int .i64 (F)), (.int .i64 (1))] : List Value), cellC b16 107 ([(.map (some m17))] : List Value), mapC m17 signedV (Value.int .i64) (marks L75), cellC r18 88 ([(.slice a72 L75.length c73)] : List Value), rowC 120 2 (.slice a72 L75.length c73) L75.length (L75.flatMap encS), cellC b26 54 ([(.pointer (some ⟨b16, 0, none⟩)), (.pointer (some ⟨r18, 0, none⟩))] : List Value), cellC b42 44 (([(.int .i64 (Y38.cl)), (.int .i64 (Y38.seq))] : List Value) ++ hc Y38.h ++ ([(.int .i64 (Y38.len)), (.int .i64 (Y38.sb)), (.int .i64 (Y38.sm))] : List Value)), rowC 49 38 (.slice a D.length c) D.length (D.flatMap encSt)] w70 := (Sat.turnL (L' := [cellC b16 107 ([(.map (some m17))] : List Value), mapC m17 signedV (Value.int .i64) (marks L75), cellC r18 88 ([(.slice a72 L75.length c73)] : List Value), rowC 120 2 (.slice a72 L75.length c73) L75.length (L75.flatMap encS)]) (R := [restC w (fun _ => False), cellC b6 36 ([(.int .i64 (F)), (.int .i64 (1))] : List Value), cellC b26 54 ([(.pointer (some ⟨b16, 0, none⟩)), (.pointer (some ⟨r18, 0, none⟩))] : List Value), cellC b42 44 (([(.int .i64 (Y38.cl)), (.int .i64 (Y38.seq))] : List Value) ++ hc Y38.h ++ ([(.int .i64 (Y38.len)), (.int .i64 (Y38.sb)), (.int .i64 (Y38.sm))] : List Value)), rowC 49 38 (.slice a D.length c) D.length (D.flatMap encSt)]) H52 [2, 3, 4, 5] [0, 1, 6, 7, 8] (by decide) (by kernel_rfl) rfl T71).pick [4, 5, 0, 1, 2, 3, 6, 7, 8] (by decide)
      refine ⟨_, rfl, ?_⟩
      obtain ⟨S74, hS74⟩ : ∃ S74 : StampD, S74 = mkS L (i : Int) Y38 (1 + ((xs.getD i 0) % 5000)) := ⟨_, rfl⟩
      rw [← hS74]
      have ndL75 : L75.Nodup := by rw [hL75]; exact signL_nodup hnd _
      have llL75 : L75.length ≤ L.length + 1 := by rw [hL75]; exact signL_len _ _
      refine hK69 _ _ ?_
      clear hK69 K69
      refine wl_do (wants0 rfl) (fun K77 hK77 => ?_)
      refine d_buildSlice (e := 49) (size := 38) (bytes := 80) (z := (.agg ⟨(([(.int .i64 (0)), (.int .i64 (0)), (.int .i64 (0))] : List Value) ++ hc hash0 ++ ([(.int .u64 (0)), (.int .i64 (0)), (.int .i64 (0))] : List Value))⟩)) (pvs := [(0, (.agg ⟨(([(.int .i64 (S74.r)), (.int .i64 (S74.cl)), (.int .i64 (S74.seq))] : List Value) ++ hc S74.h ++ ([(.int .u64 (S74.t)), (.int .i64 (S74.sb)), (.int .i64 (S74.sm))] : List Value))⟩))]) (vs := (([(.int .i64 (S74.r)), (.int .i64 (S74.cl)), (.int .i64 (S74.seq))] : List Value) ++ hc S74.h ++ ([(.int .u64 (S74.t)), (.int .i64 (S74.sb)), (.int .i64 (S74.sm))] : List Value))) rfl H76 (by kernel_rfl) (by kernel_rfl) (by kernel_rfl) (by kernel_rfl) (by kernel_rfl) rfl rfl ?_
      intro b78 w79 (H80 : Sat w [restC w (fun _ => False), cellC b6 36 ([(.int .i64 (F)), (.int .i64 (1))] : List Value), cellC b16 107 ([(.map (some m17))] : List Value), mapC m17 signedV (Value.int .i64) (marks L75), cellC r18 88 ([(.slice a72 L75.length c73)] : List Value), rowC 120 2 (.slice a72 L75.length c73) L75.length (L75.flatMap encS), cellC b26 54 ([(.pointer (some ⟨b16, 0, none⟩)), (.pointer (some ⟨r18, 0, none⟩))] : List Value), cellC b42 44 (([(.int .i64 (Y38.cl)), (.int .i64 (Y38.seq))] : List Value) ++ hc Y38.h ++ ([(.int .i64 (Y38.len)), (.int .i64 (Y38.sb)), (.int .i64 (Y38.sm))] : List Value)), rowC 49 38 (.slice a D.length c) D.length (D.flatMap encSt), rowC 49 38 (.slice (some ⟨b78, 0, none⟩) 1 1) 1 (([(.int .i64 (S74.r)), (.int .i64 (S74.cl)), (.int .i64 (S74.seq))] : List Value) ++ hc S74.h ++ ([(.int .u64 (S74.t)), (.int .i64 (S74.sb)), (.int .i64 (S74.sm))] : List Value))] w79)
      have H81 : Sat w [restC w (fun _ => False), cellC b6 36 ([(.int .i64 (F)), (.int .i64 (1))] : List Value), cellC b16 107 ([(.map (some m17))] : List Value), mapC m17 signedV (Value.int .i64) (marks L75), cellC r18 88 ([(.slice a72 L75.length c73)] : List Value), rowC 120 2 (.slice a72 L75.length c73) L75.length (L75.flatMap encS), cellC b26 54 ([(.pointer (some ⟨b16, 0, none⟩)), (.pointer (some ⟨r18, 0, none⟩))] : List Value), cellC b42 44 (([(.int .i64 (Y38.cl)), (.int .i64 (Y38.seq))] : List Value) ++ hc Y38.h ++ ([(.int .i64 (Y38.len)), (.int .i64 (Y38.sb)), (.int .i64 (Y38.sm))] : List Value)), rowC 49 38 (.slice a D.length c) D.length (D.flatMap encSt), rowC 49 38 (.slice (some ⟨b78, 0, none⟩) 1 1) 1 ([S74].flatMap encSt)] w79 := H80.cast (by rw [(show ((([(.int .i64 (S74.r)), (.int .i64 (S74.cl)), (.int .i64 (S74.seq))] : List Value) ++ hc S74.h ++ ([(.int .u64 (S74.t)), (.int .i64 (S74.sb)), (.int .i64 (S74.sm))] : List Value)) : List Value) = [S74].flatMap encSt by kernel_rfl)])
      refine hK77 _ _ ?_
      clear hK77 K77
      refine wl_do (wants0 rfl) (fun K82 hK82 => ?_)
      refine d_append (T := 45) (e := 49) (size := 38) (bytes := 80) rfl H81 (by kernel_rfl) 8 9 rfl rfl rfl rfl (flat_one encSt encSt_one [S74]) (by omega) (by omega) ?_
      intro v83 w84 (H85 : Sat w [restC w (fun _ => False), cellC b6 36 ([(.int .i64 (F)), (.int .i64 (1))] : List Value), cellC b16 107 ([(.map (some m17))] : List Value), mapC m17 signedV (Value.int .i64) (marks L75), cellC r18 88 ([(.slice a72 L75.length c73)] : List Value), rowC 120 2 (.slice a72 L75.length c73) L75.length (L75.flatMap encS), cellC b26 54 ([(.pointer (some ⟨b16, 0, none⟩)), (.pointer (some ⟨r18, 0, none⟩))] : List Value), cellC b42 44 (([(.int .i64 (Y38.cl)), (.int .i64 (Y38.seq))] : List Value) ++ hc Y38.h ++ ([(.int .i64 (Y38.len)), (.int .i64 (Y38.sb)), (.int .i64 (Y38.sm))] : List Value)), rowC 49 38 v83 (D.length + 1) ((D.flatMap encSt) ++ ([S74].flatMap encSt)), rowC 49 38 (.slice (some ⟨b78, 0, none⟩) 1 1) 1 ([S74].flatMap encSt)] w84)
      have H88 : Sat w [restC w (fun _ => False), cellC b6 36 ([(.int .i64 (F)), (.int .i64 (1))] : List Value), cellC b16 107 ([(.map (some m17))] : List Value), mapC m17 signedV (Value.int .i64) (marks L75), cellC r18 88 ([(.slice a72 L75.length c73)] : List Value), rowC 120 2 (.slice a72 L75.length c73) L75.length (L75.flatMap encS), cellC b26 54 ([(.pointer (some ⟨b16, 0, none⟩)), (.pointer (some ⟨r18, 0, none⟩))] : List Value), cellC b42 44 (([(.int .i64 (Y38.cl)), (.int .i64 (Y38.seq))] : List Value) ++ hc Y38.h ++ ([(.int .i64 (Y38.len)), (.int .i64 (Y38.sb)), (.int .i64 (Y38.sm))] : List Value)), rowC 49 38 v83 ((D ++ [S74]).length) ((D ++ [S74]).flatMap encSt), rowC 49 38 (.slice (some ⟨b78, 0, none⟩) 1 1) 1 ([S74].flatMap encSt)] w84 := H85.cast (by simp only [List.length_append, List.flatMap_append] <;> rfl)
      obtain ⟨a86, c87, rfl⟩ := ownsRow_shape (H88.at 8 rfl)
      refine hK82 _ _ ?_
      clear hK82 K82
      refine wl_pure (wants0 rfl) (d := 12) (v := (.slice a86 ((D ++ [S74]).length) c87)) rfl (by kernel_rfl) ?_
      refine w_nil ?_
      refine blk_normal ?_
      refine then_normal ?_
      refine w_lit ?_
      refine wl_pure (wants0 rfl) (d := 42) (v := (.int .i64 ((i : Int)))) rfl (by kernel_rfl) ?_
      refine wl_pure (wants0 rfl) (d := 43) (v := (.int .i64 ((i : Int) + 1))) rfl (e_int (z := (i : Int) + 1) (by kernel_rfl) (IntWalk.i64_in _ (by omega))) ?_
      refine wl_pure (wants0 rfl) (d := 15) (v := (.int .i64 ((i : Int) + 1))) rfl (by kernel_rfl) ?_
      refine w_nil ?_
      have hI2 : SInv Y38 N L75 (D ++ [S74]) (i + 1) (min lo (1 + ((xs.getD i 0) % 5000))) (max hi (1 + ((xs.getD i 0) % 5000))) := by
        rw [hS74, hL75]
        exact hI.one (by omega) (by omega) (by omega)
      have hgc2 : GoodC L75 Y38 := by rw [hL75]; exact goodC_keep hgc _
      have H89 : Sat w [restC w (fun _ => False), cellC b6 36 ([(.int .i64 (F)), (.int .i64 (1))] : List Value), cellC b16 107 ([(.map (some m17))] : List Value), mapC m17 signedV (Value.int .i64) (marks L75), cellC r18 88 ([(.slice a72 L75.length c73)] : List Value), rowC 120 2 (.slice a72 L75.length c73) L75.length (L75.flatMap encS), cellC b26 54 ([(.pointer (some ⟨b16, 0, none⟩)), (.pointer (some ⟨r18, 0, none⟩))] : List Value), cellC b42 44 (([(.int .i64 (Y38.cl)), (.int .i64 (Y38.seq))] : List Value) ++ hc Y38.h ++ ([(.int .i64 (Y38.len)), (.int .i64 (Y38.sb)), (.int .i64 (Y38.sm))] : List Value)), rowC 49 38 (.slice a86 ((D ++ [S74]).length) c87) ((D ++ [S74]).length) ((D ++ [S74]).flatMap encSt)] w84 := H88.pick [0, 1, 2, 3, 4, 5, 6, 7, 8] (by decide)
      refine round_back ?_ _ ⟨(i + 1), a86, c87, (D ++ [S74]), a72, c73, L75, (min lo (1 + ((xs.getD i 0) % 5000))), (max hi (1 + ((xs.getD i 0) % 5000))), (show ((.int .i64 ((i : Int) + 1)) : Value) = _ by first | rfl | go_num), (show ((.slice a86 ((D ++ [S74]).length) c87) : Value) = _ by first | rfl | go_num), (show ((.int .u64 (min lo (1 + ((xs.getD i 0) % 5000)))) : Value) = _ by first | rfl | go_num), (show ((.int .u64 (max hi (1 + ((xs.getD i 0) % 5000)))) : Value) = _ by first | rfl | go_num), (by omega), hI2, hgc2, ndL75, (by omega), (by simp only [List.length_append, List.length_cons, List.length_nil]; omega), H89, rfl⟩ (by omega)
      exact (same_upd rfl (same_upd rfl (same_upd rfl (same_upd rfl (same_upd rfl (same_upd rfl (same_upd rfl (same_upd rfl (same_upd rfl (same_upd rfl (same_upd rfl (same_upd rfl (same_upd rfl (same_upd rfl (same_upd rfl (same_upd rfl (same_upd rfl (same_upd rfl (same_upd rfl (same_upd rfl (same_upd rfl (same_upd rfl (same_upd rfl (same_upd rfl (same_upd rfl (same_upd rfl (same_upd rfl (same_upd rfl (same_upd rfl (same_upd rfl (same_upd rfl (same_upd rfl (same_upd rfl (same_upd rfl (same_upd rfl (same_upd rfl (same_upd rfl (same_upd rfl (same_upd rfl (same_upd rfl (same_upd rfl (same_ovr))))))))))))))))))))))))))))))))))))))))))
    · have g90 := of_decide_eq_false b61
      refine wp_know 47 (.bool false) (congrArg Value.bool b61) ?_
      have g91 := of_decide_eq_false b61
      refine wp_iff rfl ?_
      refine w_skip ?_
      refine then_normal ?_
      refine w_seq ?_
      refine w_lit ?_
      refine wl_pure (wants0 rfl) (d := 54) (v := (.int .u64 (lo))) rfl (by kernel_rfl) ?_
      refine wl_pure (wants0 rfl) (d := 55) (v := (.int .u64 (9))) rfl (by kernel_rfl) ?_
      refine wl_pure (wants0 rfl) (d := 56) (v := (.int .u64 (min lo 9))) rfl (e_minI (k := .u64) (a := lo) (b := 9) (z := min lo 9) rfl rfl rfl) ?_
      refine wl_pure (wants0 rfl) (d := 57) (v := (.int .u64 (hi))) rfl (by kernel_rfl) ?_
      refine wl_pure (wants0 rfl) (d := 58) (v := (.int .u64 (9))) rfl (by kernel_rfl) ?_
      refine wl_pure (wants0 rfl) (d := 59) (v := (.int .u64 (max hi 9))) rfl (e_maxI (k := .u64) (a := hi) (b := 9) (z := max hi 9) rfl rfl rfl) ?_
      refine wl_pure (wants0 rfl) (d := 13) (v := (.int .u64 (min lo 9))) rfl (by kernel_rfl) ?_
      refine wl_pure (wants0 rfl) (d := 14) (v := (.int .u64 (max hi 9))) rfl (by kernel_rfl) ?_
      refine w_nil ?_
      refine then_normal ?_
      refine w_lit ?_
      refine wl_pure (wants0 rfl) (d := 60) (v := (.slice a D.length c)) rfl (by kernel_rfl) ?_
      refine wl_pure (wants0 rfl) (d := 61) (v := (.agg ⟨([(.pointer (some ⟨b16, 0, none⟩)), (.pointer (some ⟨r18, 0, none⟩))] : List Value)⟩)) rfl (e_loadN (vs := ([(.pointer (some ⟨b16, 0, none⟩)), (.pointer (some ⟨r18, 0, none⟩))] : List Value)) rfl (by kernel_rfl) (by kernel_rfl) (by exact Nat.le_of_ble_eq_true (by kernel_rfl)) (H52.at 6 rfl) (by kernel_rfl)) ?_
      refine wl_pure (wants0 rfl) (d := 62) (v := (.int .i64 ((i : Int)))) rfl (by kernel_rfl) ?_
      refine wl_pure (wants0 rfl) (d := 63) (v := (.agg ⟨(([(.int .i64 (Y38.cl)), (.int .i64 (Y38.seq))] : List Value) ++ hc Y38.h ++ ([(.int .i64 (Y38.len)), (.int .i64 (Y38.sb)), (.int .i64 (Y38.sm))] : List Value))⟩)) rfl (e_loadN (vs := (([(.int .i64 (Y38.cl)), (.int .i64 (Y38.seq))] : List Value) ++ hc Y38.h ++ ([(.int .i64 (Y38.len)), (.int .i64 (Y38.sb)), (.int .i64 (Y38.sm))] : List Value))) rfl (by kernel_rfl) (by kernel_rfl) (by exact Nat.le_of_ble_eq_true (by kernel_rfl)) (H52.at 7 rfl) (by kernel_rfl)) ?_
      refine wl_pure (wants0 rfl) (d := 64) (v := (.int .u64 (9))) rfl (by kernel_rfl) ?_
      refine wl_do (wants0 rfl) (fun K92 hK92 => ?_)
      refine d_call (d := 65) rfl (by kernel_rfl) (bkStamp_any w51 b16 m17 r18 ra rc L (H52.fin [2, 3, 4, 5] (by decide) rfl) (i : Int) Y38 (9 : Int) (by omega) hokY (by omega) (by omega) hnd) ?_
      rintro _ w93 ⟨a95, c96, rfl, T94⟩
      obtain ⟨L98, hL98⟩ : ∃ L98 : List Signed, L98 = signL L (yS (i : Int) Y38 (9 : Int)) := ⟨_, rfl⟩
      rw [← hL98] at T94
      have H99 : Sat w [restC w (fun _ => False), cellC b6 36 ([(.int .i64 (F)), (.int .i64 (1))] : List Value), cellC b16 107 ([(.map (some m17))] : List Value), mapC m17 signedV (Value.int .i64) (marks L98), cellC r18 88 ([(.slice a95 L98.length c96)] : List Value), rowC 120 2 (.slice a95 L98.length c96) L98.length (L98.flatMap encS), cellC b26 54 ([(.pointer (some ⟨b16, 0, none⟩)), (.pointer (some ⟨r18, 0, none⟩))] : List Value), cellC b42 44 (([(.int .i64 (Y38.cl)), (.int .i64 (Y38.seq))] : List Value) ++ hc Y38.h ++ ([(.int .i64 (Y38.len)), (.int .i64 (Y38.sb)), (.int .i64 (Y38.sm))] : List Value)), rowC 49 38 (.slice a D.length c) D.length (D.flatMap encSt)] w93 := (Sat.turnL (L' := [cellC b16 107 ([(.map (some m17))] : List Value), mapC m17 signedV (Value.int .i64) (marks L98), cellC r18 88 ([(.slice a95 L98.length c96)] : List Value), rowC 120 2 (.slice a95 L98.length c96) L98.length (L98.flatMap encS)]) (R := [restC w (fun _ => False), cellC b6 36 ([(.int .i64 (F)), (.int .i64 (1))] : List Value), cellC b26 54 ([(.pointer (some ⟨b16, 0, none⟩)), (.pointer (some ⟨r18, 0, none⟩))] : List Value), cellC b42 44 (([(.int .i64 (Y38.cl)), (.int .i64 (Y38.seq))] : List Value) ++ hc Y38.h ++ ([(.int .i64 (Y38.len)), (.int .i64 (Y38.sb)), (.int .i64 (Y38.sm))] : List Value)), rowC 49 38 (.slice a D.length c) D.length (D.flatMap encSt)]) H52 [2, 3, 4, 5] [0, 1, 6, 7, 8] (by decide) (by kernel_rfl) rfl T94).pick [4, 5, 0, 1, 2, 3, 6, 7, 8] (by decide)
      refine ⟨_, rfl, ?_⟩
      obtain ⟨S97, hS97⟩ : ∃ S97 : StampD, S97 = mkS L (i : Int) Y38 (9 : Int) := ⟨_, rfl⟩
      rw [← hS97]
      have ndL98 : L98.Nodup := by rw [hL98]; exact signL_nodup hnd _
      have llL98 : L98.length ≤ L.length + 1 := by rw [hL98]; exact signL_len _ _
      refine hK92 _ _ ?_
      clear hK92 K92
      refine wl_do (wants0 rfl) (fun K100 hK100 => ?_)
      refine d_buildSlice (e := 49) (size := 38) (bytes := 80) (z := (.agg ⟨(([(.int .i64 (0)), (.int .i64 (0)), (.int .i64 (0))] : List Value) ++ hc hash0 ++ ([(.int .u64 (0)), (.int .i64 (0)), (.int .i64 (0))] : List Value))⟩)) (pvs := [(0, (.agg ⟨(([(.int .i64 (S97.r)), (.int .i64 (S97.cl)), (.int .i64 (S97.seq))] : List Value) ++ hc S97.h ++ ([(.int .u64 (S97.t)), (.int .i64 (S97.sb)), (.int .i64 (S97.sm))] : List Value))⟩))]) (vs := (([(.int .i64 (S97.r)), (.int .i64 (S97.cl)), (.int .i64 (S97.seq))] : List Value) ++ hc S97.h ++ ([(.int .u64 (S97.t)), (.int .i64 (S97.sb)), (.int .i64 (S97.sm))] : List Value))) rfl H99 (by kernel_rfl) (by kernel_rfl) (by kernel_rfl) (by kernel_rfl) (by kernel_rfl) rfl rfl ?_
      intro b101 w102 (H103 : Sat w [restC w (fun _ => False), cellC b6 36 ([(.int .i64 (F)), (.int .i64 (1))] : List Value), cellC b16 107 ([(.map (some m17))] : List Value), mapC m17 signedV (Value.int .i64) (marks L98), cellC r18 88 ([(.slice a95 L98.length c96)] : List Value), rowC 120 2 (.slice a95 L98.length c96) L98.length (L98.flatMap encS), cellC b26 54 ([(.pointer (some ⟨b16, 0, none⟩)), (.pointer (some ⟨r18, 0, none⟩))] : List Value), cellC b42 44 (([(.int .i64 (Y38.cl)), (.int .i64 (Y38.seq))] : List Value) ++ hc Y38.h ++ ([(.int .i64 (Y38.len)), (.int .i64 (Y38.sb)), (.int .i64 (Y38.sm))] : List Value)), rowC 49 38 (.slice a D.length c) D.length (D.flatMap encSt), rowC 49 38 (.slice (some ⟨b101, 0, none⟩) 1 1) 1 (([(.int .i64 (S97.r)), (.int .i64 (S97.cl)), (.int .i64 (S97.seq))] : List Value) ++ hc S97.h ++ ([(.int .u64 (S97.t)), (.int .i64 (S97.sb)), (.int .i64 (S97.sm))] : List Value))] w102)
      have H104 : Sat w [restC w (fun _ => False), cellC b6 36 ([(.int .i64 (F)), (.int .i64 (1))] : List Value), cellC b16 107 ([(.map (some m17))] : List Value), mapC m17 signedV (Value.int .i64) (marks L98), cellC r18 88 ([(.slice a95 L98.length c96)] : List Value), rowC 120 2 (.slice a95 L98.length c96) L98.length (L98.flatMap encS), cellC b26 54 ([(.pointer (some ⟨b16, 0, none⟩)), (.pointer (some ⟨r18, 0, none⟩))] : List Value), cellC b42 44 (([(.int .i64 (Y38.cl)), (.int .i64 (Y38.seq))] : List Value) ++ hc Y38.h ++ ([(.int .i64 (Y38.len)), (.int .i64 (Y38.sb)), (.int .i64 (Y38.sm))] : List Value)), rowC 49 38 (.slice a D.length c) D.length (D.flatMap encSt), rowC 49 38 (.slice (some ⟨b101, 0, none⟩) 1 1) 1 ([S97].flatMap encSt)] w102 := H103.cast (by rw [(show ((([(.int .i64 (S97.r)), (.int .i64 (S97.cl)), (.int .i64 (S97.seq))] : List Value) ++ hc S97.h ++ ([(.int .u64 (S97.t)), (.int .i64 (S97.sb)), (.int .i64 (S97.sm))] : List Value)) : List Value) = [S97].flatMap encSt by kernel_rfl)])
      refine hK100 _ _ ?_
      clear hK100 K100
      refine wl_do (wants0 rfl) (fun K105 hK105 => ?_)
      refine d_append (T := 45) (e := 49) (size := 38) (bytes := 80) rfl H104 (by kernel_rfl) 8 9 rfl rfl rfl rfl (flat_one encSt encSt_one [S97]) (by omega) (by omega) ?_
      intro v106 w107 (H108 : Sat w [restC w (fun _ => False), cellC b6 36 ([(.int .i64 (F)), (.int .i64 (1))] : List Value), cellC b16 107 ([(.map (some m17))] : List Value), mapC m17 signedV (Value.int .i64) (marks L98), cellC r18 88 ([(.slice a95 L98.length c96)] : List Value), rowC 120 2 (.slice a95 L98.length c96) L98.length (L98.flatMap encS), cellC b26 54 ([(.pointer (some ⟨b16, 0, none⟩)), (.pointer (some ⟨r18, 0, none⟩))] : List Value), cellC b42 44 (([(.int .i64 (Y38.cl)), (.int .i64 (Y38.seq))] : List Value) ++ hc Y38.h ++ ([(.int .i64 (Y38.len)), (.int .i64 (Y38.sb)), (.int .i64 (Y38.sm))] : List Value)), rowC 49 38 v106 (D.length + 1) ((D.flatMap encSt) ++ ([S97].flatMap encSt)), rowC 49 38 (.slice (some ⟨b101, 0, none⟩) 1 1) 1 ([S97].flatMap encSt)] w107)
      have H111 : Sat w [restC w (fun _ => False), cellC b6 36 ([(.int .i64 (F)), (.int .i64 (1))] : List Value), cellC b16 107 ([(.map (some m17))] : List Value), mapC m17 signedV (Value.int .i64) (marks L98), cellC r18 88 ([(.slice a95 L98.length c96)] : List Value), rowC 120 2 (.slice a95 L98.length c96) L98.length (L98.flatMap encS), cellC b26 54 ([(.pointer (some ⟨b16, 0, none⟩)), (.pointer (some ⟨r18, 0, none⟩))] : List Value), cellC b42 44 (([(.int .i64 (Y38.cl)), (.int .i64 (Y38.seq))] : List Value) ++ hc Y38.h ++ ([(.int .i64 (Y38.len)), (.int .i64 (Y38.sb)), (.int .i64 (Y38.sm))] : List Value)), rowC 49 38 v106 ((D ++ [S97]).length) ((D ++ [S97]).flatMap encSt), rowC 49 38 (.slice (some ⟨b101, 0, none⟩) 1 1) 1 ([S97].flatMap encSt)] w107 := H108.cast (by simp only [List.length_append, List.flatMap_append] <;> rfl)
      obtain ⟨a109, c110, rfl⟩ := ownsRow_shape (H111.at 8 rfl)
      refine hK105 _ _ ?_
      clear hK105 K105
      refine wl_pure (wants0 rfl) (d := 12) (v := (.slice a109 ((D ++ [S97]).length) c110)) rfl (by kernel_rfl) ?_
      refine w_nil ?_
      refine blk_normal ?_
      refine then_normal ?_
      refine w_lit ?_
      refine wl_pure (wants0 rfl) (d := 42) (v := (.int .i64 ((i : Int)))) rfl (by kernel_rfl) ?_
      refine wl_pure (wants0 rfl) (d := 43) (v := (.int .i64 ((i : Int) + 1))) rfl (e_int (z := (i : Int) + 1) (by kernel_rfl) (IntWalk.i64_in _ (by omega))) ?_
      refine wl_pure (wants0 rfl) (d := 15) (v := (.int .i64 ((i : Int) + 1))) rfl (by kernel_rfl) ?_
      refine w_nil ?_
      have hI2 : SInv Y38 N L98 (D ++ [S97]) (i + 1) (min lo 9) (max hi 9) := by
        rw [hS97, hL98]
        exact hI.one (by omega) (by omega) (by omega)
      have hgc2 : GoodC L98 Y38 := by rw [hL98]; exact goodC_keep hgc _
      have H112 : Sat w [restC w (fun _ => False), cellC b6 36 ([(.int .i64 (F)), (.int .i64 (1))] : List Value), cellC b16 107 ([(.map (some m17))] : List Value), mapC m17 signedV (Value.int .i64) (marks L98), cellC r18 88 ([(.slice a95 L98.length c96)] : List Value), rowC 120 2 (.slice a95 L98.length c96) L98.length (L98.flatMap encS), cellC b26 54 ([(.pointer (some ⟨b16, 0, none⟩)), (.pointer (some ⟨r18, 0, none⟩))] : List Value), cellC b42 44 (([(.int .i64 (Y38.cl)), (.int .i64 (Y38.seq))] : List Value) ++ hc Y38.h ++ ([(.int .i64 (Y38.len)), (.int .i64 (Y38.sb)), (.int .i64 (Y38.sm))] : List Value)), rowC 49 38 (.slice a109 ((D ++ [S97]).length) c110) ((D ++ [S97]).length) ((D ++ [S97]).flatMap encSt)] w107 := H111.pick [0, 1, 2, 3, 4, 5, 6, 7, 8] (by decide)
      refine round_back ?_ _ ⟨(i + 1), a109, c110, (D ++ [S97]), a95, c96, L98, (min lo 9), (max hi 9), (show ((.int .i64 ((i : Int) + 1)) : Value) = _ by first | rfl | go_num), (show ((.slice a109 ((D ++ [S97]).length) c110) : Value) = _ by first | rfl | go_num), (show ((.int .u64 (min lo 9)) : Value) = _ by first | rfl | go_num), (show ((.int .u64 (max hi 9)) : Value) = _ by first | rfl | go_num), (by omega), hI2, hgc2, ndL98, (by omega), (by simp only [List.length_append, List.length_cons, List.length_nil]; omega), H112, rfl⟩ (by omega)
      exact (same_upd rfl (same_upd rfl (same_upd rfl (same_upd rfl (same_upd rfl (same_upd rfl (same_upd rfl (same_upd rfl (same_upd rfl (same_upd rfl (same_upd rfl (same_upd rfl (same_upd rfl (same_upd rfl (same_upd rfl (same_upd rfl (same_upd rfl (same_upd rfl (same_upd rfl (same_upd rfl (same_upd rfl (same_upd rfl (same_upd rfl (same_upd rfl (same_upd rfl (same_upd rfl (same_upd rfl (same_upd rfl (same_upd rfl (same_upd rfl (same_upd rfl (same_upd rfl (same_upd rfl (same_upd rfl (same_ovr)))))))))))))))))))))))))))))))))))
  · have g113 := of_decide_eq_false b58
    refine wp_know 41 (.bool false) (congrArg Value.bool b58) ?_
    have g114 := of_decide_eq_false b58
    refine wp_iff rfl ?_
    refine w_exit ?_
    refine then_exit ?_
    refine back_exit ?_
    refine blk_hit ?_
    refine then_normal ?_
    refine w_seq ?_
    refine w_seq ?_
    have hiN : i = N := by omega
    have hDN : D.length = N := by omega
    refine w_lit ?_
    refine wl_pure (wants0 rfl) (d := 17) (v := (.int .i64 (0))) rfl (by kernel_rfl) ?_
    refine w_nil ?_
    refine then_normal ?_
    refine w_block ?_
    refine wp_round [6, 17, 18, 19, 20, 21, 68, 69, 70, 71, 72, 73, 74, 75, 76, 77, 78, 79, 80, 81, 82, 83, 84, 85, 86, 87, 88, 89, 90, 91, 92, 93, 94, 95, 96, 97, 98, 99, 100, 101, 102, 103, 104, 105, 106, 107, 108, 109, 110, 111, 112, 113, 114, 115, 116, 117, 118, 119, 120, 121, 122, 123, 124, 125] (fun F_ W_ m_ => ∃ (j : Nat), F_ 17 = (.int .i64 ((j : Int))) ∧ (j ≤ 6) ∧ Sat w [restC w (fun _ => False), cellC b6 36 ([(.int .i64 (F)), (.int .i64 (1))] : List Value), cellC b16 107 ([(.map (some m17))] : List Value), mapC m17 signedV (Value.int .i64) (marks L), cellC r18 88 ([(.slice ra L.length rc)] : List Value), rowC 120 2 (.slice ra L.length rc) L.length (L.flatMap encS), cellC b26 54 ([(.pointer (some ⟨b16, 0, none⟩)), (.pointer (some ⟨r18, 0, none⟩))] : List Value), cellC b42 44 (([(.int .i64 (Y38.cl)), (.int .i64 (Y38.seq))] : List Value) ++ hc Y38.h ++ ([(.int .i64 (Y38.len)), (.int .i64 (Y38.sb)), (.int .i64 (Y38.sm))] : List Value)), rowC 49 38 (.slice a D.length c) D.length (D.flatMap encSt)] W_ ∧ m_ = 6 - j) _ ⟨0, (show ((.int .i64 (0)) : Value) = _ by first | rfl | go_num), (Nat.zero_le _), H52, rfl⟩ ?_
    rintro g115 w116 _ ⟨j, v118, hj, H117, rfl⟩
    refine wp_know 17 _ v118 ?_
    refine w_seq ?_
    refine w_seq ?_
    refine w_lit ?_
    refine wl_pure (wants0 rfl) (d := 68) (v := (.int .i64 ((j : Int)))) rfl (by kernel_rfl) ?_
    refine wl_pure (wants0 rfl) (d := 69) (v := (.slice ra_ R.length rc_)) rfl (by kernel_rfl) ?_
    refine wl_pure (wants0 rfl) (d := 70) (v := (.int .i64 ((R.length : Int)))) rfl (by kernel_rfl) ?_
    refine wl_pure (wants0 rfl) (d := 71) (v := (.bool (decide ((j : Int) < (R.length : Int))))) rfl (by kernel_rfl) ?_
    refine wl_pure (wants0 rfl) (d := 72) (v := (.bool (decide ((j : Int) < (R.length : Int))))) rfl (by kernel_rfl) ?_
    refine (bsplit (decide ((j : Int) < (R.length : Int)))).elim (fun b120 => ?_) (fun b120 => ?_)
    · have g121 := of_decide_eq_true b120
      refine wl_know 72 (.bool true) (congrArg Value.bool b120) ?_
      have g122 := of_decide_eq_true b120
      refine wl_pure (wantsY 4 72 true rfl (by kernel_rfl) rfl (by kernel_rfl)) (d := 73) (v := (.int .i64 ((j : Int)))) rfl (by kernel_rfl) ?_
      refine wl_pure (wantsY 4 72 true rfl (by kernel_rfl) rfl (by kernel_rfl)) (d := 74) (v := (.bool (decide ((j : Int) < 6)))) rfl (by kernel_rfl) ?_
      refine wl_pure (wants0 rfl) (d := 75) (v := (.bool (decide ((j : Int) < 6)))) rfl (by kernel_rfl) ?_
      refine w_nil ?_
      refine then_normal ?_
      refine (bsplit (decide ((j : Int) < 6))).elim (fun b123 => ?_) (fun b123 => ?_)
      · have g124 := of_decide_eq_true b123
        refine wp_know 75 (.bool true) (congrArg Value.bool b123) ?_
        have g125 := of_decide_eq_true b123
        refine wp_ift rfl ?_
        refine w_skip ?_
        refine then_normal ?_
        refine w_seq ?_
        refine w_block ?_
        refine w_seq ?_
        refine w_lit ?_
        refine wl_pure (wants0 rfl) (d := 78) (v := (.slice ra_ R.length rc_)) rfl (by kernel_rfl) ?_
        refine wl_pure (wants0 rfl) (d := 79) (v := (.int .i64 ((j : Int)))) rfl (by kernel_rfl) ?_
        obtain ⟨g126, o127, c128, e129, R130⟩ := IntsAt.atD hR (show j < R.length by omega)
        refine wl_pure (wants0 rfl) (d := 80) (v := (.pointer (some ⟨g126, o127 + ((j : Int)).toNat * 1, none⟩))) rfl (e_indexAddrW (E := 3) (by kernel_rfl) (by kernel_rfl) (Nat.le_of_ble_eq_true rfl) rfl e129 rfl (by omega) (by omega)) ?_
        refine wl_pure (wants0 rfl) (d := 81) (v := (.int .i64 ((R.getD j 0)))) rfl (e_load1 rfl (by kernel_rfl) (H117.cellR 0 rfl (cells_at R130 0 (by kernel_rfl) (show o127 + ((j : Int)).toNat * 1 = o127 + j * 1 + 0 by omega)) (fun h => h))) ?_
        refine wl_pure (wants0 rfl) (d := 82) (v := (.int .i64 ((N : Int)))) rfl (by kernel_rfl) ?_
        refine wl_do (wants0 rfl) (fun K131 hK131 => ?_)
        refine d_call (d := 83) rfl (by kernel_rfl) (within_any w116 (R.getD j 0) (N : Int) (by omega)) ?_
        rintro _ w132 ⟨rfl, u134⟩
        have H133 := H117.keepU u134
        refine ⟨_, rfl, ?_⟩
        refine hK131 _ _ ?_
        clear hK131 K131
        refine wl_pure (wants0 rfl) (d := 18) (v := (.int .i64 (withinV (R.getD j 0) (N : Int)))) rfl (by kernel_rfl) ?_
        refine w_nil ?_
        refine then_normal ?_
        refine w_seq ?_
        obtain ⟨k, hk⟩ : ∃ k : Nat, (k : Int) = withinV (R.getD j 0) (N : Int) := ⟨(withinV (R.getD j 0) (N : Int)).toNat, by have := within_lim (R.getD j 0) (N : Int) (by omega); omega⟩
        have hkN : k < N := by have := within_lim (R.getD j 0) (N : Int) (by omega); omega
        refine wp_know 18 (.int .i64 ((k : Int))) (show ((.int .i64 (withinV (R.getD j 0) (N : Int))) : Value) = _ by rw [hk]) ?_
        have hcapD : D.length ≤ c := by have q := ListAt.cap (ListAt.row (enc := encSt) (sz := 38) encSt_len (by decide) (H133.at 8 rfl)); omega
        refine h_start H133 [restC w (fun _ => False), cellC b6 36 ([(.int .i64 (F)), (.int .i64 (1))] : List Value), cellC b16 107 ([(.map (some m17))] : List Value), mapC m17 signedV (Value.int .i64) (marks L), cellC r18 88 ([(.slice ra L.length rc)] : List Value), rowC 120 2 (.slice ra L.length rc) L.length (L.flatMap encS), cellC b26 54 ([(.pointer (some ⟨b16, 0, none⟩)), (.pointer (some ⟨r18, 0, none⟩))] : List Value), cellC b42 44 (([(.int .i64 (Y38.cl)), (.int .i64 (Y38.seq))] : List Value) ++ hc Y38.h ++ ([(.int .i64 (Y38.len)), (.int .i64 (Y38.sb)), (.int .i64 (Y38.sm))] : List Value)), rowC 49 38 (.slice a D.length c) D.length (D.flatMap encSt)] 9 rfl (by kernel_rfl) (fun Hx => (Hx.pick [0, 1, 2, 3, 4, 5, 6, 7, 8] (by decide))) ?_
        intro w135 H136 S137
        refine h_val 0 rfl (by kernel_rfl) (by kernel_rfl) (by kernel_rfl) (fun _ _ _ h => h) S137 (wants0 rfl) (d := 84) (v := (.slice a D.length c)) rfl (fun _ H' => (by kernel_rfl)) ?_
        refine h_val 1 rfl (by kernel_rfl) (by kernel_rfl) (by kernel_rfl) (fun _ _ _ h => h) S137 (wants0 rfl) (d := 85) (v := (.int .i64 ((k : Int)))) rfl (fun _ H' => (by kernel_rfl)) ?_
        refine h_val 2 rfl (by kernel_rfl) (by kernel_rfl) (by kernel_rfl) (fun _ _ _ h => h) S137 (wants0 rfl) (d := 86) (v := (.slice (if c = k then a else a.map (·.add (k * 38))) (D.length - k) (c - k))) rfl (fun _ H' => (e_sliceLoG (E := 49) (q := k) (by kernel_rfl) (by kernel_rfl) rfl rfl rfl (by omega))) ?_
        refine h_val 4 rfl (by kernel_rfl) (by kernel_rfl) (by kernel_rfl) (fun _ _ _ h => h) S137 (wants0 rfl) (d := 88) (v := (.slice a D.length c)) rfl (fun _ H' => (by kernel_rfl)) ?_
        refine h_val 5 rfl (by kernel_rfl) (by kernel_rfl) (by kernel_rfl) (fun _ _ _ h => h) S137 (wants0 rfl) (d := 89) (v := (.int .i64 ((k : Int)))) rfl (fun _ H' => (by kernel_rfl)) ?_
        refine h_val 6 rfl (by kernel_rfl) (by kernel_rfl) (by kernel_rfl) (fun _ _ _ h => h) S137 (wants0 rfl) (d := 90) (v := (.slice a k c)) rfl (fun _ H' => (e_sliceHi (E := 49) (q := k) (by kernel_rfl) (by kernel_rfl) rfl rfl (by omega) (by omega))) ?_
        refine h_do 3 rfl (by kernel_rfl) (wants0 rfl) (fun K138 hK138 => ?_)
        refine d_call (d := 87) rfl (by kernel_rfl) (copyS_any w135 (.slice (if c = k then a else a.map (·.add (k * 38))) (D.length - k) (c - k)) (D.drop k) (ListAt.dropG (k := k) (ListAt.row (enc := encSt) (sz := 38) encSt_len (by decide) (H136.at 8 rfl)) (by omega)) (by simp only [List.length_drop]; omega)) ?_
        rintro _ w139 ⟨u140, rfl, k141, p142, q143⟩
        have H144 : Sat w [restC w (fun _ => False), cellC b6 36 ([(.int .i64 (F)), (.int .i64 (1))] : List Value), cellC b16 107 ([(.map (some m17))] : List Value), mapC m17 signedV (Value.int .i64) (marks L), cellC r18 88 ([(.slice ra L.length rc)] : List Value), rowC 120 2 (.slice ra L.length rc) L.length (L.flatMap encS), cellC b26 54 ([(.pointer (some ⟨b16, 0, none⟩)), (.pointer (some ⟨r18, 0, none⟩))] : List Value), cellC b42 44 (([(.int .i64 (Y38.cl)), (.int .i64 (Y38.seq))] : List Value) ++ hc Y38.h ++ ([(.int .i64 (Y38.len)), (.int .i64 (Y38.sb)), (.int .i64 (Y38.sm))] : List Value)), rowC 49 38 (.slice a D.length c) D.length (D.flatMap encSt), rowC 49 38 u140 ((D.drop k).length) ((D.drop k).flatMap encSt)] w139 := H136.addU p142 k141 q143
        obtain ⟨a145, c146, rfl⟩ := ownsRow_shape (H144.at 9 rfl)
        refine ⟨_, rfl, ?_⟩
        have S147 := H144.pick [0, 1, 2, 3, 4, 5, 6, 7, 8] (by decide)
        refine hK138 _ _ S147 ?_
        clear hK138 K138
        refine h_do 7 rfl (by kernel_rfl) (wants0 rfl) (fun K148 hK148 => ?_)
        refine d_appendL (T := 45) (e := 49) (size := 38) (bytes := 80) rfl H144 (by kernel_rfl) encSt_len encSt_one 9 rfl (ListAt.take (ListAt.row (enc := encSt) (sz := 38) encSt_len (by decide) (H144.at 8 rfl)) (by omega)) rfl rfl (by simp only [List.length_drop, List.length_take]; omega) (by simp only [List.length_drop, List.length_take]; omega) ?_
        intro v149 w150 (H152 : Sat w [restC w (fun _ => False), cellC b6 36 ([(.int .i64 (F)), (.int .i64 (1))] : List Value), cellC b16 107 ([(.map (some m17))] : List Value), mapC m17 signedV (Value.int .i64) (marks L), cellC r18 88 ([(.slice ra L.length rc)] : List Value), rowC 120 2 (.slice ra L.length rc) L.length (L.flatMap encS), cellC b26 54 ([(.pointer (some ⟨b16, 0, none⟩)), (.pointer (some ⟨r18, 0, none⟩))] : List Value), cellC b42 44 (([(.int .i64 (Y38.cl)), (.int .i64 (Y38.seq))] : List Value) ++ hc Y38.h ++ ([(.int .i64 (Y38.len)), (.int .i64 (Y38.sb)), (.int .i64 (Y38.sm))] : List Value)), rowC 49 38 (.slice a D.length c) D.length (D.flatMap encSt), rowC 49 38 v149 ((D.drop k).length + (D.take k).length) ((D.drop k).flatMap encSt ++ (D.take k).flatMap encSt)] w150)
        have H151 : Sat w [restC w (fun _ => False), cellC b6 36 ([(.int .i64 (F)), (.int .i64 (1))] : List Value), cellC b16 107 ([(.map (some m17))] : List Value), mapC m17 signedV (Value.int .i64) (marks L), cellC r18 88 ([(.slice ra L.length rc)] : List Value), rowC 120 2 (.slice ra L.length rc) L.length (L.flatMap encS), cellC b26 54 ([(.pointer (some ⟨b16, 0, none⟩)), (.pointer (some ⟨r18, 0, none⟩))] : List Value), cellC b42 44 (([(.int .i64 (Y38.cl)), (.int .i64 (Y38.seq))] : List Value) ++ hc Y38.h ++ ([(.int .i64 (Y38.len)), (.int .i64 (Y38.sb)), (.int .i64 (Y38.sm))] : List Value)), rowC 49 38 (.slice a D.length c) D.length (D.flatMap encSt), rowC 49 38 v149 (((D.drop k) ++ (D.take k)).length) (((D.drop k) ++ (D.take k)).flatMap encSt)] w150 := H152.cast (by simp only [List.length_append, List.flatMap_append])
        obtain ⟨a153, c154, rfl⟩ := ownsRow_shape (H151.at 9 rfl)
        have S155 := H151.pick [0, 1, 2, 3, 4, 5, 6, 7, 8] (by decide)
        refine hK148 _ _ S155 ?_
        clear hK148 K148
        refine h_val 8 rfl (by kernel_rfl) (by kernel_rfl) (by kernel_rfl) (fun _ _ _ h => h) S155 (wants0 rfl) (d := 19) (v := (.slice a153 (((D.drop k) ++ (D.take k)).length) c154)) rfl (fun _ H' => (by kernel_rfl)) ?_
        refine h_fin (by kernel_rfl) ?_
        refine then_normal ?_
        refine w_seq ?_
        have hAl : ((D.drop k) ++ (D.take k)).length = N := by rw [List.length_append, List.length_drop, List.length_take]; omega
        have hTl : (((D.drop k) ++ (D.take k)).take Q).length = Q := by rw [List.length_take]; omega
        have hout : outS F Y38 (((D.drop k) ++ (D.take k)).take Q) = (((D.drop k) ++ (D.take k)).take Q) := hI.out hN
        have hall : ∀ s ∈ (((D.drop k) ++ (D.take k)).take Q), OkS Y38 N L lo hi s := fun s hs => hI.turn hs
        have hQR : Q ≤ (refS Y38 (((D.drop k) ++ (D.take k)).take Q) N).length := by rw [← ref_len (F := F) hN, hout]; omega
        have hRX : rightX F 1 L Y38 ((refS Y38 (((D.drop k) ++ (D.take k)).take Q) N).take Q) = true := rightX_of hall hN hQ hQR (rightC_good hgc (by omega) (by omega) (by omega) (by simp only [List.length_nil] at lnY38; omega))
        have htm := time_of hall hQ hQR
        have hUl : ((refS Y38 (((D.drop k) ++ (D.take k)).take Q) N).take Q).length = Q := by rw [List.length_take]; omega
        have hcapA : ((D.drop k) ++ (D.take k)).length ≤ c154 := by have q := ListAt.cap (ListAt.row (enc := encSt) (sz := 38) encSt_len (by decide) (H151.at 9 rfl)); omega
        refine h_start H151 [restC w (fun _ => False), cellC b6 36 ([(.int .i64 (F)), (.int .i64 (1))] : List Value), cellC b16 107 ([(.map (some m17))] : List Value), mapC m17 signedV (Value.int .i64) (marks L), cellC r18 88 ([(.slice ra L.length rc)] : List Value), rowC 120 2 (.slice ra L.length rc) L.length (L.flatMap encS), cellC b26 54 ([(.pointer (some ⟨b16, 0, none⟩)), (.pointer (some ⟨r18, 0, none⟩))] : List Value), cellC b42 44 (([(.int .i64 (Y38.cl)), (.int .i64 (Y38.seq))] : List Value) ++ hc Y38.h ++ ([(.int .i64 (Y38.len)), (.int .i64 (Y38.sb)), (.int .i64 (Y38.sm))] : List Value)), rowC 49 38 (.slice a D.length c) D.length (D.flatMap encSt), rowC 49 38 (.slice a153 (((D.drop k) ++ (D.take k)).length) c154) (((D.drop k) ++ (D.take k)).length) (((D.drop k) ++ (D.take k)).flatMap encSt)] 15 rfl (by kernel_rfl) (fun Hx => (Hx.pick [0, 1, 2, 3, 4, 5, 6, 7, 8, 9] (by decide))) ?_
        intro w156 H157 S158
        refine h_val 0 rfl (by kernel_rfl) (by kernel_rfl) (by kernel_rfl) (fun _ _ _ h => h) S158 (wants0 rfl) (d := 93) (v := (.agg ⟨([(.int .i64 (F)), (.int .i64 (1))] : List Value)⟩)) rfl (fun _ H' => (e_loadN (vs := ([(.int .i64 (F)), (.int .i64 (1))] : List Value)) rfl (by kernel_rfl) (by kernel_rfl) (by exact Nat.le_of_ble_eq_true (by kernel_rfl)) (H'.at 1 rfl) (by kernel_rfl))) ?_
        refine h_val 1 rfl (by kernel_rfl) (by kernel_rfl) (by kernel_rfl) (fun _ _ _ h => h) S158 (wants0 rfl) (d := 94) (v := (.agg ⟨(([(.int .i64 (Y38.cl)), (.int .i64 (Y38.seq))] : List Value) ++ hc Y38.h ++ ([(.int .i64 (Y38.len)), (.int .i64 (Y38.sb)), (.int .i64 (Y38.sm))] : List Value))⟩)) rfl (fun _ H' => (e_loadN (vs := (([(.int .i64 (Y38.cl)), (.int .i64 (Y38.seq))] : List Value) ++ hc Y38.h ++ ([(.int .i64 (Y38.len)), (.int .i64 (Y38.sb)), (.int .i64 (Y38.sm))] : List Value))) rfl (by kernel_rfl) (by kernel_rfl) (by exact Nat.le_of_ble_eq_true (by kernel_rfl)) (H'.at 7 rfl) (by kernel_rfl))) ?_
        refine h_val 2 rfl (by kernel_rfl) (by kernel_rfl) (by kernel_rfl) (fun _ _ _ h => h) S158 (wants0 rfl) (d := 95) (v := (.slice a153 (((D.drop k) ++ (D.take k)).length) c154)) rfl (fun _ H' => (by kernel_rfl)) ?_
        refine h_val 3 rfl (by kernel_rfl) (by kernel_rfl) (by kernel_rfl) (fun _ _ _ h => h) S158 (wants0 rfl) (d := 96) (v := (.pointer (some ⟨b6, 0, none⟩))) rfl (fun _ H' => (by kernel_rfl)) ?_
        refine h_val 4 rfl (by kernel_rfl) (by kernel_rfl) (by kernel_rfl) (fun _ _ _ h => h) S158 (wants0 rfl) (d := 97) (v := (.int .i64 (F))) rfl (fun _ H' => (e_load1 rfl (by kernel_rfl) (H'.cell 1 rfl rfl))) ?_
        refine h_val 5 rfl (by kernel_rfl) (by kernel_rfl) (by kernel_rfl) (fun _ _ _ h => h) S158 (wants0 rfl) (d := 98) (v := (.int .i64 (2 * F))) rfl (fun _ H' => (e_int (z := 2 * F) (by kernel_rfl) (IntWalk.i64_in _ (by omega)))) ?_
        refine h_val 6 rfl (by kernel_rfl) (by kernel_rfl) (by kernel_rfl) (fun _ _ _ h => h) S158 (wants0 rfl) (d := 99) (v := (.int .i64 ((Q : Int)))) rfl (fun _ H' => (e_int (z := (2 * F) + 1) (by kernel_rfl) (by rw [hQ]; exact IntWalk.i64_in _ (by omega)))) ?_
        refine h_val 7 rfl (by kernel_rfl) (by kernel_rfl) (by kernel_rfl) (fun _ _ _ h => h) S158 (wants0 rfl) (d := 100) (v := (.slice a153 Q c154)) rfl (fun _ H' => (e_sliceHi (E := 49) (q := Q) (by kernel_rfl) (by kernel_rfl) rfl rfl (by omega) (by omega))) ?_
        refine h_do2 8 12 rfl rfl (by kernel_rfl) (wants0 rfl) (wants0 rfl) (fun K159 hK159 => ?_) (fun K159 hK159 => ?_)
        · refine d_call (d := 101) rfl (by kernel_rfl) (wMakeG_at w156 F 1 Y38 N Q hN hQ (by omega) (.slice a153 Q c154) (((D.drop k) ++ (D.take k)).take Q) (ListAt.take (ListAt.row (enc := encSt) (sz := 38) encSt_len (by decide) (H157.at 9 rfl)) (by omega)) (by omega) (by rw [hout]; omega)) ?_
          rintro _ w160 (⟨rfl, l162, u166⟩ | ⟨g163, c164, rfl, l162, k165, u166, q167⟩)
          · exact (by omega : False).elim
          · have H168 : Sat w [restC w (fun _ => False), cellC b6 36 ([(.int .i64 (F)), (.int .i64 (1))] : List Value), cellC b16 107 ([(.map (some m17))] : List Value), mapC m17 signedV (Value.int .i64) (marks L), cellC r18 88 ([(.slice ra L.length rc)] : List Value), rowC 120 2 (.slice ra L.length rc) L.length (L.flatMap encS), cellC b26 54 ([(.pointer (some ⟨b16, 0, none⟩)), (.pointer (some ⟨r18, 0, none⟩))] : List Value), cellC b42 44 (([(.int .i64 (Y38.cl)), (.int .i64 (Y38.seq))] : List Value) ++ hc Y38.h ++ ([(.int .i64 (Y38.len)), (.int .i64 (Y38.sb)), (.int .i64 (Y38.sm))] : List Value)), rowC 49 38 (.slice a D.length c) D.length (D.flatMap encSt), rowC 49 38 (.slice a153 (((D.drop k) ++ (D.take k)).length) c154) (((D.drop k) ++ (D.take k)).length) (((D.drop k) ++ (D.take k)).flatMap encSt), rowC 49 38 (.slice (some ⟨g163, 0, none⟩) ((refS Y38 (((D.drop k) ++ (D.take k)).take Q) N).length) c164) ((refS Y38 (((D.drop k) ++ (D.take k)).take Q) N).length) ((refS Y38 (((D.drop k) ++ (D.take k)).take Q) N).flatMap encSt)] w160 := H157.addU u166 k165 (fun b hb => by cases hb; exact q167)
            refine ⟨_, rfl, ?_⟩
            have S169 := H168.pick [0, 1, 2, 3, 4, 5, 6, 7, 8, 9] (by decide)
            refine hK159 _ _ S169 ?_
            clear hK159 K159
            refine h_val 9 rfl (by kernel_rfl) (by kernel_rfl) (by kernel_rfl) (fun _ _ _ h => h) S169 (wants0 rfl) (d := 92) (v := (.tuple #[(.agg ⟨(([(.int .i64 (Y38.cl)), (.int .i64 (Y38.seq))] : List Value) ++ hc Y38.h ++ ([(.int .i64 (Y38.len)), (.int .i64 (Y38.sb)), (.int .i64 (Y38.sm)), (.slice (some ⟨g163, 0, none⟩) Q c164)] : List Value))⟩), (.int .i64 (0))])) rfl (fun _ H' => (by kernel_rfl)) ?_
            refine h_val 10 rfl (by kernel_rfl) (by kernel_rfl) (by kernel_rfl) (fun _ _ _ h => h) S169 (wants0 rfl) (d := 102) (v := (.agg ⟨(([(.int .i64 (Y38.cl)), (.int .i64 (Y38.seq))] : List Value) ++ hc Y38.h ++ ([(.int .i64 (Y38.len)), (.int .i64 (Y38.sb)), (.int .i64 (Y38.sm)), (.slice (some ⟨g163, 0, none⟩) Q c164)] : List Value))⟩)) rfl (fun _ H' => (by kernel_rfl)) ?_
            refine h_val 11 rfl (by kernel_rfl) (by kernel_rfl) (by kernel_rfl) (fun _ _ _ h => h) S169 (wants0 rfl) (d := 103) (v := (.int .i64 (0))) rfl (fun _ H' => (by kernel_rfl)) ?_
            refine h_do 12 rfl (by kernel_rfl) (wants0 rfl) (fun K170 hK170 => ?_)
            refine d_alloc (zs := (([(.int .i64 (0)), (.int .i64 (0))] : List Value) ++ hc hash0 ++ ([(.int .i64 (0)), (.int .i64 (0)), (.int .i64 (0)), (.slice none 0 0)] : List Value))) (z := (.agg ⟨(([(.int .i64 (0)), (.int .i64 (0))] : List Value) ++ hc hash0 ++ ([(.int .i64 (0)), (.int .i64 (0)), (.int .i64 (0)), (.slice none 0 0)] : List Value))⟩)) rfl H168 (by kernel_rfl) (by kernel_rfl) ?_
            intro b171 w172 (H173 : Sat w [restC w (fun _ => False), cellC b6 36 ([(.int .i64 (F)), (.int .i64 (1))] : List Value), cellC b16 107 ([(.map (some m17))] : List Value), mapC m17 signedV (Value.int .i64) (marks L), cellC r18 88 ([(.slice ra L.length rc)] : List Value), rowC 120 2 (.slice ra L.length rc) L.length (L.flatMap encS), cellC b26 54 ([(.pointer (some ⟨b16, 0, none⟩)), (.pointer (some ⟨r18, 0, none⟩))] : List Value), cellC b42 44 (([(.int .i64 (Y38.cl)), (.int .i64 (Y38.seq))] : List Value) ++ hc Y38.h ++ ([(.int .i64 (Y38.len)), (.int .i64 (Y38.sb)), (.int .i64 (Y38.sm))] : List Value)), rowC 49 38 (.slice a D.length c) D.length (D.flatMap encSt), rowC 49 38 (.slice a153 (((D.drop k) ++ (D.take k)).length) c154) (((D.drop k) ++ (D.take k)).length) (((D.drop k) ++ (D.take k)).flatMap encSt), rowC 49 38 (.slice (some ⟨g163, 0, none⟩) ((refS Y38 (((D.drop k) ++ (D.take k)).take Q) N).length) c164) ((refS Y38 (((D.drop k) ++ (D.take k)).take Q) N).length) ((refS Y38 (((D.drop k) ++ (D.take k)).take Q) N).flatMap encSt), cellC b171 47 (([(.int .i64 (0)), (.int .i64 (0))] : List Value) ++ hc hash0 ++ ([(.int .i64 (0)), (.int .i64 (0)), (.int .i64 (0)), (.slice none 0 0)] : List Value))] w172)
            have S174 := H173.pick [0, 1, 2, 3, 4, 5, 6, 7, 8, 9] (by decide)
            refine hK170 _ _ S174 ?_
            clear hK170 K170
            refine h_do 13 rfl (by kernel_rfl) (wants0 rfl) (fun K175 hK175 => ?_)
            refine d_storeX (vs := (([(.int .i64 (Y38.cl)), (.int .i64 (Y38.seq))] : List Value) ++ hc Y38.h ++ ([(.int .i64 (Y38.len)), (.int .i64 (Y38.sb)), (.int .i64 (Y38.sm)), (.slice (some ⟨g163, 0, none⟩) Q c164)] : List Value))) (cs' := (([(.int .i64 (Y38.cl)), (.int .i64 (Y38.seq))] : List Value) ++ hc Y38.h ++ ([(.int .i64 (Y38.len)), (.int .i64 (Y38.sb)), (.int .i64 (Y38.sm)), (.slice (some ⟨g163, 0, none⟩) Q c164)] : List Value))) rfl H173 11 rfl rfl rfl rfl (by kernel_rfl) (Nat.le_of_ble_eq_true (by kernel_rfl)) (Nat.le_of_ble_eq_true (by kernel_rfl)) (by kernel_rfl) (by kernel_rfl) ?_
            intro w176 (H177 : Sat w [restC w (fun _ => False), cellC b6 36 ([(.int .i64 (F)), (.int .i64 (1))] : List Value), cellC b16 107 ([(.map (some m17))] : List Value), mapC m17 signedV (Value.int .i64) (marks L), cellC r18 88 ([(.slice ra L.length rc)] : List Value), rowC 120 2 (.slice ra L.length rc) L.length (L.flatMap encS), cellC b26 54 ([(.pointer (some ⟨b16, 0, none⟩)), (.pointer (some ⟨r18, 0, none⟩))] : List Value), cellC b42 44 (([(.int .i64 (Y38.cl)), (.int .i64 (Y38.seq))] : List Value) ++ hc Y38.h ++ ([(.int .i64 (Y38.len)), (.int .i64 (Y38.sb)), (.int .i64 (Y38.sm))] : List Value)), rowC 49 38 (.slice a D.length c) D.length (D.flatMap encSt), rowC 49 38 (.slice a153 (((D.drop k) ++ (D.take k)).length) c154) (((D.drop k) ++ (D.take k)).length) (((D.drop k) ++ (D.take k)).flatMap encSt), rowC 49 38 (.slice (some ⟨g163, 0, none⟩) ((refS Y38 (((D.drop k) ++ (D.take k)).take Q) N).length) c164) ((refS Y38 (((D.drop k) ++ (D.take k)).take Q) N).length) ((refS Y38 (((D.drop k) ++ (D.take k)).take Q) N).flatMap encSt), cellC b171 47 (([(.int .i64 (Y38.cl)), (.int .i64 (Y38.seq))] : List Value) ++ hc Y38.h ++ ([(.int .i64 (Y38.len)), (.int .i64 (Y38.sb)), (.int .i64 (Y38.sm)), (.slice (some ⟨g163, 0, none⟩) Q c164)] : List Value))] w176)
            have S179 := H177.pick [0, 1, 2, 3, 4, 5, 6, 7, 8, 9] (by decide)
            refine hK175 _ _ S179 ?_
            clear hK175 K175
            refine h_val 14 rfl (by kernel_rfl) (by kernel_rfl) (by kernel_rfl) (fun _ _ _ h => h) S179 (wants0 rfl) (d := 21) (v := (.int .i64 (0))) rfl (fun _ H' => (by kernel_rfl)) ?_
            refine h_fin (by kernel_rfl) ?_
            refine then_normal ?_
            refine w_seq ?_
            refine w_lit ?_
            refine wl_pure (wants0 rfl) (d := 104) (v := (.int .i64 (0))) rfl (by kernel_rfl) ?_
            refine wl_pure (wants0 rfl) (d := 105) (v := (.bool false)) rfl (by kernel_rfl) ?_
            refine wl_pure (wants0 rfl) (d := 106) (v := (.bool false)) rfl (by kernel_rfl) ?_
            refine wl_pure (wantsY 2 106 false rfl (by kernel_rfl) rfl (by kernel_rfl)) (d := 107) (v := (.agg ⟨([(.int .i64 (F)), (.int .i64 (1))] : List Value)⟩)) rfl (e_loadN (vs := ([(.int .i64 (F)), (.int .i64 (1))] : List Value)) rfl (by kernel_rfl) (by kernel_rfl) (by exact Nat.le_of_ble_eq_true (by kernel_rfl)) (H177.at 1 rfl) (by kernel_rfl)) ?_
            refine wl_pure (wantsY 2 106 false rfl (by kernel_rfl) rfl (by kernel_rfl)) (d := 108) (v := (.pointer (some ⟨b26, 0, none⟩))) rfl (by kernel_rfl) ?_
            refine wl_pure (wantsY 2 106 false rfl (by kernel_rfl) rfl (by kernel_rfl)) (d := 109) (v := (.pointer (some ⟨b16, 0, none⟩))) rfl (e_load1 rfl (by kernel_rfl) (H177.cell 6 rfl rfl)) ?_
            refine wl_pure (wantsY 2 106 false rfl (by kernel_rfl) rfl (by kernel_rfl)) (d := 110) (v := (.agg ⟨(([(.int .i64 (Y38.cl)), (.int .i64 (Y38.seq))] : List Value) ++ hc Y38.h ++ ([(.int .i64 (Y38.len)), (.int .i64 (Y38.sb)), (.int .i64 (Y38.sm)), (.slice (some ⟨g163, 0, none⟩) Q c164)] : List Value))⟩)) rfl (e_loadN (vs := (([(.int .i64 (Y38.cl)), (.int .i64 (Y38.seq))] : List Value) ++ hc Y38.h ++ ([(.int .i64 (Y38.len)), (.int .i64 (Y38.sb)), (.int .i64 (Y38.sm)), (.slice (some ⟨g163, 0, none⟩) Q c164)] : List Value))) rfl (by kernel_rfl) (by kernel_rfl) (by exact Nat.le_of_ble_eq_true (by kernel_rfl)) (H177.at 11 rfl) (by kernel_rfl)) ?_
            refine wl_do (wantsY 2 106 false rfl (by kernel_rfl) rfl (by kernel_rfl)) (fun K180 hK180 => ?_)
            refine d_call (d := 111) rfl (by kernel_rfl) (wRightX_at w176 F 1 (by omega) b16 m17 L (H177.at 2 rfl) (H177.at 3 rfl) Y38 hokY (.slice (some ⟨g163, 0, none⟩) Q c164) ((refS Y38 (((D.drop k) ++ (D.take k)).take Q) N).take Q) (ListAt.takeN (ListAt.row (enc := encSt) (sz := 38) encSt_len (by decide) (H177.at 10 rfl)) (by omega)) (stsOk_of hall (by omega)) (by omega)) ?_
            rintro _ w181 ⟨rfl, u183⟩
            have H182 := H177.keepU u183
            refine ⟨_, rfl, ?_⟩
            refine hK180 _ _ ?_
            clear hK180 K180
            refine wl_pure (wantsY 2 106 false rfl (by kernel_rfl) rfl (by kernel_rfl)) (d := 112) (v := (.bool (!(rightX F 1 L Y38 ((refS Y38 (((D.drop k) ++ (D.take k)).take Q) N).take Q))))) rfl (by kernel_rfl) ?_
            refine wl_pure (wants0 rfl) (d := 113) (v := (.bool (!(rightX F 1 L Y38 ((refS Y38 (((D.drop k) ++ (D.take k)).take Q) N).take Q))))) rfl (by kernel_rfl) ?_
            refine wl_pure (wants0 rfl) (d := 114) (v := (.bool (!(rightX F 1 L Y38 ((refS Y38 (((D.drop k) ++ (D.take k)).take Q) N).take Q))))) rfl (by kernel_rfl) ?_
            have b184 : (!(rightX F 1 L Y38 ((refS Y38 (((D.drop k) ++ (D.take k)).take Q) N).take Q))) = false := by rw [hRX]; rfl
            refine wl_know 114 (.bool false) (congrArg Value.bool b184) ?_
            have g185 := bnot_false b184
            refine wl_pure (wantsY 10 114 false rfl (by kernel_rfl) rfl (by kernel_rfl)) (d := 115) (v := (.agg ⟨(([(.int .i64 (Y38.cl)), (.int .i64 (Y38.seq))] : List Value) ++ hc Y38.h ++ ([(.int .i64 (Y38.len)), (.int .i64 (Y38.sb)), (.int .i64 (Y38.sm)), (.slice (some ⟨g163, 0, none⟩) Q c164)] : List Value))⟩)) rfl (e_loadN (vs := (([(.int .i64 (Y38.cl)), (.int .i64 (Y38.seq))] : List Value) ++ hc Y38.h ++ ([(.int .i64 (Y38.len)), (.int .i64 (Y38.sb)), (.int .i64 (Y38.sm)), (.slice (some ⟨g163, 0, none⟩) Q c164)] : List Value))) rfl (by kernel_rfl) (by kernel_rfl) (by exact Nat.le_of_ble_eq_true (by kernel_rfl)) (H182.at 11 rfl) (by kernel_rfl)) ?_
            refine wl_do (wantsY 10 114 false rfl (by kernel_rfl) rfl (by kernel_rfl)) (fun K186 hK186 => ?_)
            refine d_call (d := 116) rfl (by kernel_rfl) (wTime_at w181 Y38 (.slice (some ⟨g163, 0, none⟩) Q c164) ((refS Y38 (((D.drop k) ++ (D.take k)).take Q) N).take Q) (ListAt.takeN (ListAt.row (enc := encSt) (sz := 38) encSt_len (by decide) (H182.at 10 rfl)) (by omega)) (by omega)) ?_
            rintro _ w187 ⟨rfl, u189⟩
            have H188 := H182.keepU u189
            refine ⟨_, rfl, ?_⟩
            refine hK186 _ _ ?_
            clear hK186 K186
            refine wl_pure (wantsY 10 114 false rfl (by kernel_rfl) rfl (by kernel_rfl)) (d := 117) (v := (.int .u64 (lo))) rfl (by kernel_rfl) ?_
            refine wl_pure (wantsY 10 114 false rfl (by kernel_rfl) rfl (by kernel_rfl)) (d := 118) (v := (.bool (decide ((timeD ((refS Y38 (((D.drop k) ++ (D.take k)).take Q) N).take Q)) < lo)))) rfl (by kernel_rfl) ?_
            refine wl_pure (wants0 rfl) (d := 119) (v := (.bool (decide ((timeD ((refS Y38 (((D.drop k) ++ (D.take k)).take Q) N).take Q)) < lo)))) rfl (by kernel_rfl) ?_
            refine wl_pure (wants0 rfl) (d := 120) (v := (.bool (decide ((timeD ((refS Y38 (((D.drop k) ++ (D.take k)).take Q) N).take Q)) < lo)))) rfl (by kernel_rfl) ?_
            have b190 : (decide ((timeD ((refS Y38 (((D.drop k) ++ (D.take k)).take Q) N).take Q)) < lo)) = false := by exact decide_eq_false (by omega)
            refine wl_know 120 (.bool false) (congrArg Value.bool b190) ?_
            have g191 := of_decide_eq_false b190
            refine wl_pure (wantsY 16 120 false rfl (by kernel_rfl) rfl (by kernel_rfl)) (d := 121) (v := (.agg ⟨(([(.int .i64 (Y38.cl)), (.int .i64 (Y38.seq))] : List Value) ++ hc Y38.h ++ ([(.int .i64 (Y38.len)), (.int .i64 (Y38.sb)), (.int .i64 (Y38.sm)), (.slice (some ⟨g163, 0, none⟩) Q c164)] : List Value))⟩)) rfl (e_loadN (vs := (([(.int .i64 (Y38.cl)), (.int .i64 (Y38.seq))] : List Value) ++ hc Y38.h ++ ([(.int .i64 (Y38.len)), (.int .i64 (Y38.sb)), (.int .i64 (Y38.sm)), (.slice (some ⟨g163, 0, none⟩) Q c164)] : List Value))) rfl (by kernel_rfl) (by kernel_rfl) (by exact Nat.le_of_ble_eq_true (by kernel_rfl)) (H188.at 11 rfl) (by kernel_rfl)) ?_
            refine wl_do (wantsY 16 120 false rfl (by kernel_rfl) rfl (by kernel_rfl)) (fun K192 hK192 => ?_)
            refine d_call (d := 122) rfl (by kernel_rfl) (wTime_at w187 Y38 (.slice (some ⟨g163, 0, none⟩) Q c164) ((refS Y38 (((D.drop k) ++ (D.take k)).take Q) N).take Q) (ListAt.takeN (ListAt.row (enc := encSt) (sz := 38) encSt_len (by decide) (H188.at 10 rfl)) (by omega)) (by omega)) ?_
            rintro _ w193 ⟨rfl, u195⟩
            have H194 := H188.keepU u195
            refine ⟨_, rfl, ?_⟩
            refine hK192 _ _ ?_
            clear hK192 K192
            refine wl_pure (wantsY 16 120 false rfl (by kernel_rfl) rfl (by kernel_rfl)) (d := 123) (v := (.int .u64 (hi))) rfl (by kernel_rfl) ?_
            refine wl_pure (wantsY 16 120 false rfl (by kernel_rfl) rfl (by kernel_rfl)) (d := 124) (v := (.bool (decide ((timeD ((refS Y38 (((D.drop k) ++ (D.take k)).take Q) N).take Q)) > hi)))) rfl (by kernel_rfl) ?_
            refine wl_pure (wants0 rfl) (d := 125) (v := (.bool (decide ((timeD ((refS Y38 (((D.drop k) ++ (D.take k)).take Q) N).take Q)) > hi)))) rfl (by kernel_rfl) ?_
            refine w_nil ?_
            refine then_normal ?_
            have b196 : (decide ((timeD ((refS Y38 (((D.drop k) ++ (D.take k)).take Q) N).take Q)) > hi)) = false := by exact decide_eq_false (by omega)
            refine wp_know 125 (.bool false) (congrArg Value.bool b196) ?_
            have g197 := of_decide_eq_false b196
            refine wp_iff rfl ?_
            refine w_skip ?_
            refine blk_normal ?_
            refine then_normal ?_
            refine w_lit ?_
            refine wl_pure (wants0 rfl) (d := 76) (v := (.int .i64 ((j : Int)))) rfl (by kernel_rfl) ?_
            refine wl_pure (wants0 rfl) (d := 77) (v := (.int .i64 ((j : Int) + 1))) rfl (e_int (z := (j : Int) + 1) (by kernel_rfl) (IntWalk.i64_in _ (by omega))) ?_
            refine wl_pure (wants0 rfl) (d := 17) (v := (.int .i64 ((j : Int) + 1))) rfl (by kernel_rfl) ?_
            refine w_nil ?_
            have H198 : Sat w [restC w (fun _ => False), cellC b6 36 ([(.int .i64 (F)), (.int .i64 (1))] : List Value), cellC b16 107 ([(.map (some m17))] : List Value), mapC m17 signedV (Value.int .i64) (marks L), cellC r18 88 ([(.slice ra L.length rc)] : List Value), rowC 120 2 (.slice ra L.length rc) L.length (L.flatMap encS), cellC b26 54 ([(.pointer (some ⟨b16, 0, none⟩)), (.pointer (some ⟨r18, 0, none⟩))] : List Value), cellC b42 44 (([(.int .i64 (Y38.cl)), (.int .i64 (Y38.seq))] : List Value) ++ hc Y38.h ++ ([(.int .i64 (Y38.len)), (.int .i64 (Y38.sb)), (.int .i64 (Y38.sm))] : List Value)), rowC 49 38 (.slice a D.length c) D.length (D.flatMap encSt)] w193 := H194.pick [0, 1, 2, 3, 4, 5, 6, 7, 8] (by decide)
            refine round_back ?_ _ ⟨(j + 1), (show ((.int .i64 ((j : Int) + 1)) : Value) = _ by first | rfl | go_num), (by omega), H198, rfl⟩ (by omega)
            exact (same_upd rfl (same_upd rfl (same_upd rfl (same_upd rfl (same_upd rfl (same_upd rfl (same_upd rfl (same_upd rfl (same_upd rfl (same_upd rfl (same_upd rfl (same_upd rfl (same_upd rfl (same_upd rfl (same_upd rfl (same_upd rfl (same_upd rfl (same_upd rfl (same_upd rfl (same_upd rfl (same_upd rfl (same_upd rfl (same_upd rfl (same_upd rfl (same_upd rfl (same_upd rfl (same_upd rfl (same_upd rfl (same_upd rfl (same_upd rfl (same_upd rfl (same_upd rfl (same_upd rfl (same_upd rfl (same_upd rfl (same_upd rfl (same_upd rfl (same_upd rfl (same_upd rfl (same_upd rfl (same_upd rfl (same_upd rfl (same_upd rfl (same_upd rfl (same_upd rfl (same_upd rfl (same_upd rfl (same_upd rfl (same_upd rfl (same_upd rfl (same_upd rfl (same_upd rfl (same_upd rfl (same_upd rfl (same_upd rfl (same_upd rfl (same_upd rfl (same_upd rfl (same_upd rfl (same_upd rfl (same_upd rfl (same_upd rfl (same_upd rfl (same_upd rfl (same_upd rfl (same_upd rfl (same_upd rfl (same_upd rfl (same_upd rfl (same_upd rfl (same_ovr)))))))))))))))))))))))))))))))))))))))))))))))))))))))))))))))))))))))
        · refine d_alloc (zs := (([(.int .i64 (0)), (.int .i64 (0))] : List Value) ++ hc hash0 ++ ([(.int .i64 (0)), (.int .i64 (0)), (.int .i64 (0)), (.slice none 0 0)] : List Value))) (z := (.agg ⟨(([(.int .i64 (0)), (.int .i64 (0))] : List Value) ++ hc hash0 ++ ([(.int .i64 (0)), (.int .i64 (0)), (.int .i64 (0)), (.slice none 0 0)] : List Value))⟩)) rfl H157 (by kernel_rfl) (by kernel_rfl) ?_
          intro b199 w200 (H201 : Sat w [restC w (fun _ => False), cellC b6 36 ([(.int .i64 (F)), (.int .i64 (1))] : List Value), cellC b16 107 ([(.map (some m17))] : List Value), mapC m17 signedV (Value.int .i64) (marks L), cellC r18 88 ([(.slice ra L.length rc)] : List Value), rowC 120 2 (.slice ra L.length rc) L.length (L.flatMap encS), cellC b26 54 ([(.pointer (some ⟨b16, 0, none⟩)), (.pointer (some ⟨r18, 0, none⟩))] : List Value), cellC b42 44 (([(.int .i64 (Y38.cl)), (.int .i64 (Y38.seq))] : List Value) ++ hc Y38.h ++ ([(.int .i64 (Y38.len)), (.int .i64 (Y38.sb)), (.int .i64 (Y38.sm))] : List Value)), rowC 49 38 (.slice a D.length c) D.length (D.flatMap encSt), rowC 49 38 (.slice a153 (((D.drop k) ++ (D.take k)).length) c154) (((D.drop k) ++ (D.take k)).length) (((D.drop k) ++ (D.take k)).flatMap encSt), cellC b199 47 (([(.int .i64 (0)), (.int .i64 (0))] : List Value) ++ hc hash0 ++ ([(.int .i64 (0)), (.int .i64 (0)), (.int .i64 (0)), (.slice none 0 0)] : List Value))] w200)
          have S202 := H201.pick [0, 1, 2, 3, 4, 5, 6, 7, 8, 9] (by decide)
          refine hK159 _ _ S202 ?_
          clear hK159 K159
          refine h_do 8 rfl (by kernel_rfl) (wants0 rfl) (fun K203 hK203 => ?_)
          refine d_call (d := 101) rfl (by kernel_rfl) (wMakeG_at w200 F 1 Y38 N Q hN hQ (by omega) (.slice a153 Q c154) (((D.drop k) ++ (D.take k)).take Q) (ListAt.take (ListAt.row (enc := encSt) (sz := 38) encSt_len (by decide) (H201.at 9 rfl)) (by omega)) (by omega) (by rw [hout]; omega)) ?_
          rintro _ w204 (⟨rfl, l206, u210⟩ | ⟨g207, c208, rfl, l206, k209, u210, q211⟩)
          · exact (by omega : False).elim
          · have H212 : Sat w [restC w (fun _ => False), cellC b6 36 ([(.int .i64 (F)), (.int .i64 (1))] : List Value), cellC b16 107 ([(.map (some m17))] : List Value), mapC m17 signedV (Value.int .i64) (marks L), cellC r18 88 ([(.slice ra L.length rc)] : List Value), rowC 120 2 (.slice ra L.length rc) L.length (L.flatMap encS), cellC b26 54 ([(.pointer (some ⟨b16, 0, none⟩)), (.pointer (some ⟨r18, 0, none⟩))] : List Value), cellC b42 44 (([(.int .i64 (Y38.cl)), (.int .i64 (Y38.seq))] : List Value) ++ hc Y38.h ++ ([(.int .i64 (Y38.len)), (.int .i64 (Y38.sb)), (.int .i64 (Y38.sm))] : List Value)), rowC 49 38 (.slice a D.length c) D.length (D.flatMap encSt), rowC 49 38 (.slice a153 (((D.drop k) ++ (D.take k)).length) c154) (((D.drop k) ++ (D.take k)).length) (((D.drop k) ++ (D.take k)).flatMap encSt), cellC b199 47 (([(.int .i64 (0)), (.int .i64 (0))] : List Value) ++ hc hash0 ++ ([(.int .i64 (0)), (.int .i64 (0)), (.int .i64 (0)), (.slice none 0 0)] : List Value)), rowC 49 38 (.slice (some ⟨g207, 0, none⟩) ((refS Y38 (((D.drop k) ++ (D.take k)).take Q) N).length) c208) ((refS Y38 (((D.drop k) ++ (D.take k)).take Q) N).length) ((refS Y38 (((D.drop k) ++ (D.take k)).take Q) N).flatMap encSt)] w204 := H201.addU u210 k209 (fun b hb => by cases hb; exact q211)
            refine ⟨_, rfl, ?_⟩
            have S213 := H212.pick [0, 1, 2, 3, 4, 5, 6, 7, 8, 9] (by decide)
            refine hK203 _ _ S213 ?_
            clear hK203 K203
            refine h_val 9 rfl (by kernel_rfl) (by kernel_rfl) (by kernel_rfl) (fun _ _ _ h => h) S213 (wants0 rfl) (d := 92) (v := (.tuple #[(.agg ⟨(([(.int .i64 (Y38.cl)), (.int .i64 (Y38.seq))] : List Value) ++ hc Y38.h ++ ([(.int .i64 (Y38.len)), (.int .i64 (Y38.sb)), (.int .i64 (Y38.sm)), (.slice (some ⟨g207, 0, none⟩) Q c208)] : List Value))⟩), (.int .i64 (0))])) rfl (fun _ H' => (by kernel_rfl)) ?_
            refine h_val 10 rfl (by kernel_rfl) (by kernel_rfl) (by kernel_rfl) (fun _ _ _ h => h) S213 (wants0 rfl) (d := 102) (v := (.agg ⟨(([(.int .i64 (Y38.cl)), (.int .i64 (Y38.seq))] : List Value) ++ hc Y38.h ++ ([(.int .i64 (Y38.len)), (.int .i64 (Y38.sb)), (.int .i64 (Y38.sm)), (.slice (some ⟨g207, 0, none⟩) Q c208)] : List Value))⟩)) rfl (fun _ H' => (by kernel_rfl)) ?_
            refine h_val 11 rfl (by kernel_rfl) (by kernel_rfl) (by kernel_rfl) (fun _ _ _ h => h) S213 (wants0 rfl) (d := 103) (v := (.int .i64 (0))) rfl (fun _ H' => (by kernel_rfl)) ?_
            refine h_do 13 rfl (by kernel_rfl) (wants0 rfl) (fun K214 hK214 => ?_)
            refine d_storeX (vs := (([(.int .i64 (Y38.cl)), (.int .i64 (Y38.seq))] : List Value) ++ hc Y38.h ++ ([(.int .i64 (Y38.len)), (.int .i64 (Y38.sb)), (.int .i64 (Y38.sm)), (.slice (some ⟨g207, 0, none⟩) Q c208)] : List Value))) (cs' := (([(.int .i64 (Y38.cl)), (.int .i64 (Y38.seq))] : List Value) ++ hc Y38.h ++ ([(.int .i64 (Y38.len)), (.int .i64 (Y38.sb)), (.int .i64 (Y38.sm)), (.slice (some ⟨g207, 0, none⟩) Q c208)] : List Value))) rfl H212 10 rfl rfl rfl rfl (by kernel_rfl) (Nat.le_of_ble_eq_true (by kernel_rfl)) (Nat.le_of_ble_eq_true (by kernel_rfl)) (by kernel_rfl) (by kernel_rfl) ?_
            intro w215 (H216 : Sat w [restC w (fun _ => False), cellC b6 36 ([(.int .i64 (F)), (.int .i64 (1))] : List Value), cellC b16 107 ([(.map (some m17))] : List Value), mapC m17 signedV (Value.int .i64) (marks L), cellC r18 88 ([(.slice ra L.length rc)] : List Value), rowC 120 2 (.slice ra L.length rc) L.length (L.flatMap encS), cellC b26 54 ([(.pointer (some ⟨b16, 0, none⟩)), (.pointer (some ⟨r18, 0, none⟩))] : List Value), cellC b42 44 (([(.int .i64 (Y38.cl)), (.int .i64 (Y38.seq))] : List Value) ++ hc Y38.h ++ ([(.int .i64 (Y38.len)), (.int .i64 (Y38.sb)), (.int .i64 (Y38.sm))] : List Value)), rowC 49 38 (.slice a D.length c) D.length (D.flatMap encSt), rowC 49 38 (.slice a153 (((D.drop k) ++ (D.take k)).length) c154) (((D.drop k) ++ (D.take k)).length) (((D.drop k) ++ (D.take k)).flatMap encSt), cellC b199 47 (([(.int .i64 (Y38.cl)), (.int .i64 (Y38.seq))] : List Value) ++ hc Y38.h ++ ([(.int .i64 (Y38.len)), (.int .i64 (Y38.sb)), (.int .i64 (Y38.sm)), (.slice (some ⟨g207, 0, none⟩) Q c208)] : List Value)), rowC 49 38 (.slice (some ⟨g207, 0, none⟩) ((refS Y38 (((D.drop k) ++ (D.take k)).take Q) N).length) c208) ((refS Y38 (((D.drop k) ++ (D.take k)).take Q) N).length) ((refS Y38 (((D.drop k) ++ (D.take k)).take Q) N).flatMap encSt)] w215)
            have S218 := H216.pick [0, 1, 2, 3, 4, 5, 6, 7, 8, 9] (by decide)
            refine hK214 _ _ S218 ?_
            clear hK214 K214
            refine h_val 14 rfl (by kernel_rfl) (by kernel_rfl) (by kernel_rfl) (fun _ _ _ h => h) S218 (wants0 rfl) (d := 21) (v := (.int .i64 (0))) rfl (fun _ H' => (by kernel_rfl)) ?_
            refine h_fin (by kernel_rfl) ?_
            refine then_normal ?_
            refine w_seq ?_
            refine w_lit ?_
            refine wl_pure (wants0 rfl) (d := 104) (v := (.int .i64 (0))) rfl (by kernel_rfl) ?_
            refine wl_pure (wants0 rfl) (d := 105) (v := (.bool false)) rfl (by kernel_rfl) ?_
            refine wl_pure (wants0 rfl) (d := 106) (v := (.bool false)) rfl (by kernel_rfl) ?_
            refine wl_pure (wantsY 2 106 false rfl (by kernel_rfl) rfl (by kernel_rfl)) (d := 107) (v := (.agg ⟨([(.int .i64 (F)), (.int .i64 (1))] : List Value)⟩)) rfl (e_loadN (vs := ([(.int .i64 (F)), (.int .i64 (1))] : List Value)) rfl (by kernel_rfl) (by kernel_rfl) (by exact Nat.le_of_ble_eq_true (by kernel_rfl)) (H216.at 1 rfl) (by kernel_rfl)) ?_
            refine wl_pure (wantsY 2 106 false rfl (by kernel_rfl) rfl (by kernel_rfl)) (d := 108) (v := (.pointer (some ⟨b26, 0, none⟩))) rfl (by kernel_rfl) ?_
            refine wl_pure (wantsY 2 106 false rfl (by kernel_rfl) rfl (by kernel_rfl)) (d := 109) (v := (.pointer (some ⟨b16, 0, none⟩))) rfl (e_load1 rfl (by kernel_rfl) (H216.cell 6 rfl rfl)) ?_
            refine wl_pure (wantsY 2 106 false rfl (by kernel_rfl) rfl (by kernel_rfl)) (d := 110) (v := (.agg ⟨(([(.int .i64 (Y38.cl)), (.int .i64 (Y38.seq))] : List Value) ++ hc Y38.h ++ ([(.int .i64 (Y38.len)), (.int .i64 (Y38.sb)), (.int .i64 (Y38.sm)), (.slice (some ⟨g207, 0, none⟩) Q c208)] : List Value))⟩)) rfl (e_loadN (vs := (([(.int .i64 (Y38.cl)), (.int .i64 (Y38.seq))] : List Value) ++ hc Y38.h ++ ([(.int .i64 (Y38.len)), (.int .i64 (Y38.sb)), (.int .i64 (Y38.sm)), (.slice (some ⟨g207, 0, none⟩) Q c208)] : List Value))) rfl (by kernel_rfl) (by kernel_rfl) (by exact Nat.le_of_ble_eq_true (by kernel_rfl)) (H216.at 10 rfl) (by kernel_rfl)) ?_
            refine wl_do (wantsY 2 106 false rfl (by kernel_rfl) rfl (by kernel_rfl)) (fun K219 hK219 => ?_)
            refine d_call (d := 111) rfl (by kernel_rfl) (wRightX_at w215 F 1 (by omega) b16 m17 L (H216.at 2 rfl) (H216.at 3 rfl) Y38 hokY (.slice (some ⟨g207, 0, none⟩) Q c208) ((refS Y38 (((D.drop k) ++ (D.take k)).take Q) N).take Q) (ListAt.takeN (ListAt.row (enc := encSt) (sz := 38) encSt_len (by decide) (H216.at 11 rfl)) (by omega)) (stsOk_of hall (by omega)) (by omega)) ?_
            rintro _ w220 ⟨rfl, u222⟩
            have H221 := H216.keepU u222
            refine ⟨_, rfl, ?_⟩
            refine hK219 _ _ ?_
            clear hK219 K219
            refine wl_pure (wantsY 2 106 false rfl (by kernel_rfl) rfl (by kernel_rfl)) (d := 112) (v := (.bool (!(rightX F 1 L Y38 ((refS Y38 (((D.drop k) ++ (D.take k)).take Q) N).take Q))))) rfl (by kernel_rfl) ?_
            refine wl_pure (wants0 rfl) (d := 113) (v := (.bool (!(rightX F 1 L Y38 ((refS Y38 (((D.drop k) ++ (D.take k)).take Q) N).take Q))))) rfl (by kernel_rfl) ?_
            refine wl_pure (wants0 rfl) (d := 114) (v := (.bool (!(rightX F 1 L Y38 ((refS Y38 (((D.drop k) ++ (D.take k)).take Q) N).take Q))))) rfl (by kernel_rfl) ?_
            have b223 : (!(rightX F 1 L Y38 ((refS Y38 (((D.drop k) ++ (D.take k)).take Q) N).take Q))) = false := by rw [hRX]; rfl
            refine wl_know 114 (.bool false) (congrArg Value.bool b223) ?_
            have g224 := bnot_false b223
            refine wl_pure (wantsY 10 114 false rfl (by kernel_rfl) rfl (by kernel_rfl)) (d := 115) (v := (.agg ⟨(([(.int .i64 (Y38.cl)), (.int .i64 (Y38.seq))] : List Value) ++ hc Y38.h ++ ([(.int .i64 (Y38.len)), (.int .i64 (Y38.sb)), (.int .i64 (Y38.sm)), (.slice (some ⟨g207, 0, none⟩) Q c208)] : List Value))⟩)) rfl (e_loadN (vs := (([(.int .i64 (Y38.cl)), (.int .i64 (Y38.seq))] : List Value) ++ hc Y38.h ++ ([(.int .i64 (Y38.len)), (.int .i64 (Y38.sb)), (.int .i64 (Y38.sm)), (.slice (some ⟨g207, 0, none⟩) Q c208)] : List Value))) rfl (by kernel_rfl) (by kernel_rfl) (by exact Nat.le_of_ble_eq_true (by kernel_rfl)) (H221.at 10 rfl) (by kernel_rfl)) ?_
            refine wl_do (wantsY 10 114 false rfl (by kernel_rfl) rfl (by kernel_rfl)) (fun K225 hK225 => ?_)
            refine d_call (d := 116) rfl (by kernel_rfl) (wTime_at w220 Y38 (.slice (some ⟨g207, 0, none⟩) Q c208) ((refS Y38 (((D.drop k) ++ (D.take k)).take Q) N).take Q) (ListAt.takeN (ListAt.row (enc := encSt) (sz := 38) encSt_len (by decide) (H221.at 11 rfl)) (by omega)) (by omega)) ?_
            rintro _ w226 ⟨rfl, u228⟩
            have H227 := H221.keepU u228
            refine ⟨_, rfl, ?_⟩
            refine hK225 _ _ ?_
            clear hK225 K225
            refine wl_pure (wantsY 10 114 false rfl (by kernel_rfl) rfl (by kernel_rfl)) (d := 117) (v := (.int .u64 (lo))) rfl (by kernel_rfl) ?_
            refine wl_pure (wantsY 10 114 false rfl (by kernel_rfl) rfl (by kernel_rfl)) (d := 118) (v := (.bool (decide ((timeD ((refS Y38 (((D.drop k) ++ (D.take k)).take Q) N).take Q)) < lo)))) rfl (by kernel_rfl) ?_
            refine wl_pure (wants0 rfl) (d := 119) (v := (.bool (decide ((timeD ((refS Y38 (((D.drop k) ++ (D.take k)).take Q) N).take Q)) < lo)))) rfl (by kernel_rfl) ?_
            refine wl_pure (wants0 rfl) (d := 120) (v := (.bool (decide ((timeD ((refS Y38 (((D.drop k) ++ (D.take k)).take Q) N).take Q)) < lo)))) rfl (by kernel_rfl) ?_
            have b229 : (decide ((timeD ((refS Y38 (((D.drop k) ++ (D.take k)).take Q) N).take Q)) < lo)) = false := by exact decide_eq_false (by omega)
            refine wl_know 120 (.bool false) (congrArg Value.bool b229) ?_
            have g230 := of_decide_eq_false b229
            refine wl_pure (wantsY 16 120 false rfl (by kernel_rfl) rfl (by kernel_rfl)) (d := 121) (v := (.agg ⟨(([(.int .i64 (Y38.cl)), (.int .i64 (Y38.seq))] : List Value) ++ hc Y38.h ++ ([(.int .i64 (Y38.len)), (.int .i64 (Y38.sb)), (.int .i64 (Y38.sm)), (.slice (some ⟨g207, 0, none⟩) Q c208)] : List Value))⟩)) rfl (e_loadN (vs := (([(.int .i64 (Y38.cl)), (.int .i64 (Y38.seq))] : List Value) ++ hc Y38.h ++ ([(.int .i64 (Y38.len)), (.int .i64 (Y38.sb)), (.int .i64 (Y38.sm)), (.slice (some ⟨g207, 0, none⟩) Q c208)] : List Value))) rfl (by kernel_rfl) (by kernel_rfl) (by exact Nat.le_of_ble_eq_true (by kernel_rfl)) (H227.at 10 rfl) (by kernel_rfl)) ?_
            refine wl_do (wantsY 16 120 false rfl (by kernel_rfl) rfl (by kernel_rfl)) (fun K231 hK231 => ?_)
            refine d_call (d := 122) rfl (by kernel_rfl) (wTime_at w226 Y38 (.slice (some ⟨g207, 0, none⟩) Q c208) ((refS Y38 (((D.drop k) ++ (D.take k)).take Q) N).take Q) (ListAt.takeN (ListAt.row (enc := encSt) (sz := 38) encSt_len (by decide) (H227.at 11 rfl)) (by omega)) (by omega)) ?_
            rintro _ w232 ⟨rfl, u234⟩
            have H233 := H227.keepU u234
            refine ⟨_, rfl, ?_⟩
            refine hK231 _ _ ?_
            clear hK231 K231
            refine wl_pure (wantsY 16 120 false rfl (by kernel_rfl) rfl (by kernel_rfl)) (d := 123) (v := (.int .u64 (hi))) rfl (by kernel_rfl) ?_
            refine wl_pure (wantsY 16 120 false rfl (by kernel_rfl) rfl (by kernel_rfl)) (d := 124) (v := (.bool (decide ((timeD ((refS Y38 (((D.drop k) ++ (D.take k)).take Q) N).take Q)) > hi)))) rfl (by kernel_rfl) ?_
            refine wl_pure (wants0 rfl) (d := 125) (v := (.bool (decide ((timeD ((refS Y38 (((D.drop k) ++ (D.take k)).take Q) N).take Q)) > hi)))) rfl (by kernel_rfl) ?_
            refine w_nil ?_
            refine then_normal ?_
            have b235 : (decide ((timeD ((refS Y38 (((D.drop k) ++ (D.take k)).take Q) N).take Q)) > hi)) = false := by exact decide_eq_false (by omega)
            refine wp_know 125 (.bool false) (congrArg Value.bool b235) ?_
            have g236 := of_decide_eq_false b235
            refine wp_iff rfl ?_
            refine w_skip ?_
            refine blk_normal ?_
            refine then_normal ?_
            refine w_lit ?_
            refine wl_pure (wants0 rfl) (d := 76) (v := (.int .i64 ((j : Int)))) rfl (by kernel_rfl) ?_
            refine wl_pure (wants0 rfl) (d := 77) (v := (.int .i64 ((j : Int) + 1))) rfl (e_int (z := (j : Int) + 1) (by kernel_rfl) (IntWalk.i64_in _ (by omega))) ?_
            refine wl_pure (wants0 rfl) (d := 17) (v := (.int .i64 ((j : Int) + 1))) rfl (by kernel_rfl) ?_
            refine w_nil ?_
            have H237 : Sat w [restC w (fun _ => False), cellC b6 36 ([(.int .i64 (F)), (.int .i64 (1))] : List Value), cellC b16 107 ([(.map (some m17))] : List Value), mapC m17 signedV (Value.int .i64) (marks L), cellC r18 88 ([(.slice ra L.length rc)] : List Value), rowC 120 2 (.slice ra L.length rc) L.length (L.flatMap encS), cellC b26 54 ([(.pointer (some ⟨b16, 0, none⟩)), (.pointer (some ⟨r18, 0, none⟩))] : List Value), cellC b42 44 (([(.int .i64 (Y38.cl)), (.int .i64 (Y38.seq))] : List Value) ++ hc Y38.h ++ ([(.int .i64 (Y38.len)), (.int .i64 (Y38.sb)), (.int .i64 (Y38.sm))] : List Value)), rowC 49 38 (.slice a D.length c) D.length (D.flatMap encSt)] w232 := H233.pick [0, 1, 2, 3, 4, 5, 6, 7, 8] (by decide)
            refine round_back ?_ _ ⟨(j + 1), (show ((.int .i64 ((j : Int) + 1)) : Value) = _ by first | rfl | go_num), (by omega), H237, rfl⟩ (by omega)
            exact (same_upd rfl (same_upd rfl (same_upd rfl (same_upd rfl (same_upd rfl (same_upd rfl (same_upd rfl (same_upd rfl (same_upd rfl (same_upd rfl (same_upd rfl (same_upd rfl (same_upd rfl (same_upd rfl (same_upd rfl (same_upd rfl (same_upd rfl (same_upd rfl (same_upd rfl (same_upd rfl (same_upd rfl (same_upd rfl (same_upd rfl (same_upd rfl (same_upd rfl (same_upd rfl (same_upd rfl (same_upd rfl (same_upd rfl (same_upd rfl (same_upd rfl (same_upd rfl (same_upd rfl (same_upd rfl (same_upd rfl (same_upd rfl (same_upd rfl (same_upd rfl (same_upd rfl (same_upd rfl (same_upd rfl (same_upd rfl (same_upd rfl (same_upd rfl (same_upd rfl (same_upd rfl (same_upd rfl (same_upd rfl (same_upd rfl (same_upd rfl (same_upd rfl (same_upd rfl (same_upd rfl (same_upd rfl (same_upd rfl (same_upd rfl (same_upd rfl (same_upd rfl (same_upd rfl (same_upd rfl (same_upd rfl (same_upd rfl (same_upd rfl (same_upd rfl (same_upd rfl (same_upd rfl (same_upd rfl (same_upd rfl (same_upd rfl (same_upd rfl (same_ovr)))))))))))))))))))))))))))))))))))))))))))))))))))))))))))))))))))))))
      · have g238 := of_decide_eq_false b123
        refine wp_know 75 (.bool false) (congrArg Value.bool b123) ?_
        have g239 := of_decide_eq_false b123
        refine wp_iff rfl ?_
        refine w_exit ?_
        refine then_exit ?_
        refine back_exit ?_
        refine blk_hit ?_
        refine then_normal ?_
        refine w_seq ?_
        refine w_lit ?_
        refine wl_do (wants0 rfl) (fun K240 hK240 => ?_)
        refine d_call (d := 126) rfl (by kernel_rfl) (wakes_any w116) ?_
        rintro _ w241 ⟨rfl, u243⟩
        have H242 := H117.keepU u243
        refine ⟨_, rfl, ?_⟩
        refine hK240 _ _ ?_
        clear hK240 K240
        refine wl_pure (wants0 rfl) (d := 6) (v := (.bool true)) rfl (by kernel_rfl) ?_
        refine w_nil ?_
        refine then_normal ?_
        refine w_ret ?_
        refine end1 rfl (res_tmp (v := (.bool true)) rfl) ?_
        exact ⟨rfl, H242.upd 0 rfl [] (fun _ h => h.elim)⟩
    · have g244 := of_decide_eq_false b120
      refine wl_know 72 (.bool false) (congrArg Value.bool b120) ?_
      have g245 := of_decide_eq_false b120
      refine wl_pass (wantsN 4 72 true rfl (by kernel_rfl) rfl (by kernel_rfl)) rfl ?_
      refine wl_pass (wantsN 4 72 true rfl (by kernel_rfl) rfl (by kernel_rfl)) rfl ?_
      refine wl_pure (wants0 rfl) (d := 75) (v := (.bool false)) rfl (by kernel_rfl) ?_
      refine w_nil ?_
      refine then_normal ?_
      refine wp_iff rfl ?_
      refine w_exit ?_
      refine then_exit ?_
      refine back_exit ?_
      refine blk_hit ?_
      refine then_normal ?_
      refine w_seq ?_
      refine w_lit ?_
      refine wl_do (wants0 rfl) (fun K246 hK246 => ?_)
      refine d_call (d := 126) rfl (by kernel_rfl) (wakes_any w116) ?_
      rintro _ w247 ⟨rfl, u249⟩
      have H248 := H117.keepU u249
      refine ⟨_, rfl, ?_⟩
      refine hK246 _ _ ?_
      clear hK246 K246
      refine wl_pure (wants0 rfl) (d := 6) (v := (.bool true)) rfl (by kernel_rfl) ?_
      refine w_nil ?_
      refine then_normal ?_
      refine w_ret ?_
      refine end1 rfl (res_tmp (v := (.bool true)) rfl) ?_
      exact ⟨rfl, H248.upd 0 rfl [] (fun _ h => h.elim)⟩

end Go.Proofs.Ytbpeofcoceaahaa
