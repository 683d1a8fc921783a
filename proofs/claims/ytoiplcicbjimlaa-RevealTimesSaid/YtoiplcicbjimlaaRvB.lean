/- WHAT IS PROVED: places by rising numbers; denials counted: contracts. Conditions: stated with each. -/
import Derived.Test.YtoiplcicbjimlaaItemsI
import Derived.Test.YtoiplcicbjimlaaRvA
import Derived.Test.YtoiplcicbjimlaaPBook
namespace Go.Proofs.Ytoiplcicbjimlaa
open Go.RowKit
theorem den_map {L : List (Int × PlX)} {i : Int} {X : PlX} {w : World} {db : Nat} (h : (denC L).ok w) (hX : lookM L i = some X) (hd : X.p.dm = some db) : MapAt w db (Value.int .i64) denV X.D := by
  obtain ⟨⟨b, h1, h2⟩, _⟩ := denC_get h hX
  rw [hd] at h1
  cases h1
  exact h2
theorem look_putG {ν : Type} (l : List (Int × ν)) (a j : Int) (v : ν) : lookM (putM l a v) j = if j = a then some v else lookM l j := by
  split
  · rename_i e; rw [e]; exact look_put_same _ _ _
  · rename_i e; exact look_put_other _ _ _ _ e
theorem keys_putS {ν : Type} {l : List (Int × ν)} {a : Int} {u v : ν} (h : lookM l a = some u) : (putM l a v).map (·.1) = l.map (·.1) := by
  rw [keys_putG, if_pos (List.mem_map_of_mem (f := (·.1)) (mem_lookG h))]
/-- a denial is counted at its place -/
def CountR (L : List (Int × PlX)) (d : DenyD) (X : PlX) (M : List (Int × PlX)) : Prop :=
  ∃ X' : PlX, coreX X' = coreX X ∧ X'.p.acked = X.p.acked ∧ X'.p.denied = X.p.denied ∧ X'.p.oi = X.p.oi ∧ X'.pay = X.pay ∧ X'.D = (if (lookM X.D d.r).isSome = true then X.D else putM X.D d.r d) ∧ (∀ j, lookM M j = if j = d.i then some X' else lookM L j) ∧ M.map (·.1) = L.map (·.1)
/-- is a place denied now? -/
def dueX (now : Int) (X : PlX) : Bool := !X.p.acked && !X.p.denied && !decide (now < X.p.since) && !decide (now - X.p.since < 20)
def dueB (now : Int) (L : List (Int × PlX)) (j : Int) : Bool := ((lookM L j).map (dueX now)).getD false
/-- a place, and what it is behind it -/
def DueX (rep now j : Int) (X X' : PlX) : Prop :=
  coreX X' = coreX X ∧ X'.p.acked = X.p.acked ∧ X'.p.oi = X.p.oi ∧ X'.pay = X.pay ∧ X'.p.denied = (X.p.denied || dueX now X) ∧ (dueX now X = false → X'.D = X.D) ∧ (dueX now X = true → ∃ d : DenyD, d.r = rep ∧ d.i = j ∧ X'.D = if (lookM X.D rep).isSome = true then X.D else putM X.D rep d)
structure DueI (rep now : Int) (L : List (Int × PlX)) (k : Nat) (M : List (Int × PlX)) (O : List DenyD) : Prop where
  keys : M.map (·.1) = L.map (·.1)
  done : ∀ j ∈ (sortI L).take k, ∀ X, lookM L j = some X → ∃ X', lookM M j = some X' ∧ DueX rep now j X X'
  todo : ∀ j, j ∉ (sortI L).take k → lookM M j = lookM L j
  out : O.map (·.i) = ((sortI L).take k).filter (dueB now L)
  who : ∀ d ∈ O, d.r = rep
structure DueR (rep now : Int) (L M : List (Int × PlX)) (O : List DenyD) : Prop where
  keys : M.map (·.1) = L.map (·.1)
  done : ∀ j X, lookM L j = some X → ∃ X', lookM M j = some X' ∧ DueX rep now j X X'
  none : ∀ j, lookM L j = none → lookM M j = none
  out : O.map (·.i) = (sortI L).filter (dueB now L)
  who : ∀ d ∈ O, d.r = rep
section
variable {rep now : Int} {L M : List (Int × PlX)} {O : List DenyD} {k : Nat} {x : Int} {X : PlX}
theorem DueI.start (rep now : Int) (L : List (Int × PlX)) : DueI rep now L 0 L [] := ⟨rfl, by simp, fun _ _ => rfl, by simp, by simp⟩
theorem DueI.len (h : DueI rep now L k M O) : O.length ≤ (sortI L).length := by
  have h1 := congrArg List.length h.out
  rw [List.length_map] at h1
  have h2 := List.length_filter_le (dueB now L) ((sortI L).take k)
  rw [List.length_take] at h2
  omega
theorem take_at {l : List Int} {k : Nat} {x : Int} (hx : l[k]? = some x) : l.take (k + 1) = l.take k ++ [x] := by
  rw [List.take_add_one, hx]; rfl
theorem notin_take {l : List Int} {k : Nat} {x : Int} (hx : l[k]? = some x) (hn : l.Nodup) : x ∉ l.take k := fun h => by
  obtain ⟨i, hi, e⟩ := List.mem_iff_getElem.1 h
  rw [List.length_take] at hi
  obtain ⟨hk, ek⟩ := List.getElem?_eq_some_iff.1 hx
  rw [List.getElem_take] at e
  exact (List.pairwise_iff_getElem.1 hn) i k (by omega) hk (by omega) (e.trans ek.symm)
theorem DueI.todo_at (h : DueI rep now L k M O) (hx : (sortI L)[k]? = some x) (hn : (L.map (·.1)).Nodup) : ∃ X, lookM L x = some X ∧ lookM M x = some X := by
  have h1 : x ∈ L.map (·.1) := sortI_mem.1 (List.mem_of_getElem? hx)
  have h2 := h.todo x (notin_take hx (sortI_nodup hn))
  cases hX : lookM L x with
  | none => exact absurd h1 (look_noneG.1 hX)
  | some X => exact ⟨X, rfl, h2.trans hX⟩
theorem DueI.skip (h : DueI rep now L k M O) (hn : (L.map (·.1)).Nodup) (hx : (sortI L)[k]? = some x) (hX : lookM L x = some X) (hd : dueX now X = false) : DueI rep now L (k + 1) M O := by
  have h0 := h.todo x (notin_take hx (sortI_nodup hn))
  refine ⟨h.keys, fun j hj Y hY => ?_, fun j hj => h.todo j fun hm => hj (by rw [take_at hx]; exact List.mem_append_left _ hm), ?_, h.who⟩
  · rw [take_at hx] at hj
    rcases List.mem_append.1 hj with hj | hj
    · exact h.done j hj Y hY
    · rw [List.mem_singleton] at hj
      subst hj
      rw [hX] at hY
      cases hY
      exact ⟨X, h0.trans hX, rfl, rfl, rfl, rfl, by rw [hd, Bool.or_false], fun _ => rfl, fun e => by rw [hd] at e; cases e⟩
  · rw [take_at hx, List.filter_append, h.out, List.filter_cons, if_neg (by unfold dueB; rw [hX]; simp [hd])]
    simp
theorem DueI.due (h : DueI rep now L k M O) (hn : (L.map (·.1)).Nodup) (hx : (sortI L)[k]? = some x) (hX : lookM L x = some X) (hM : lookM M x = some X) (hd : dueX now X = true) {X1 : PlX} {d : DenyD} {M' : List (Int × PlX)}
    (h1 : coreX X1 = coreX X) (h2 : X1.p.acked = X.p.acked) (h3 : X1.p.oi = X.p.oi) (h4 : X1.p.denied = true) (h5 : X1.D = X.D) (h6 : X1.pay = X.pay) (hC : CountR (putM M x X1) d X1 M') (hr : d.r = rep) (hi : d.i = x) : DueI rep now L (k + 1) M' (O ++ [d]) := by
  obtain ⟨X', c1, c2, c3, c4, c8, c5, c6, c7⟩ := hC
  have hM' : ∀ j, lookM M' j = if j = x then some X' else lookM M j := fun j => by
    rw [c6, hi]
    split
    · rfl
    · rename_i e; exact look_put_other _ _ _ _ e
  refine ⟨by rw [c7, keys_putS hM, h.keys], fun j hj Y hY => ?_, fun j hj => ?_, ?_, fun e he => ?_⟩
  · rw [take_at hx] at hj
    by_cases e : j = x
    · subst e
      rw [hX] at hY
      cases hY
      refine ⟨X', by rw [hM', if_pos rfl], c1.trans h1, c2.trans h2, c4.trans h3, c8.trans h6, by rw [c3, h4, hd, Bool.or_true], fun e => (by rw [hd] at e; cases e), fun _ => ⟨d, hr, hi, ?_⟩⟩
      rw [c5, h5, hr]
    · rcases List.mem_append.1 hj with hj | hj
      · obtain ⟨Y', hY1, hY2⟩ := h.done j hj Y hY
        exact ⟨Y', by rw [hM', if_neg e]; exact hY1, hY2⟩
      · exact absurd (List.mem_singleton.1 hj) e
  · rw [take_at hx] at hj
    have e : j ≠ x := fun e => hj (by rw [e]; simp)
    rw [hM', if_neg e]
    exact h.todo j fun hm => hj (List.mem_append_left _ hm)
  · rw [take_at hx, List.filter_append, List.map_append, h.out, List.filter_cons, if_pos (by unfold dueB; rw [hX]; simp [hd])]
    simp [hi]
  · rcases List.mem_append.1 he with he | he
    · exact h.who e he
    · rw [List.mem_singleton.1 he]; exact hr
theorem DueI.fin (h : DueI rep now L (sortI L).length M O) (_hn : (L.map (·.1)).Nodup) : DueR rep now L M O := by
  have ht : (sortI L).take (sortI L).length = sortI L := List.take_length
  refine ⟨h.keys, fun j X hX => h.done j (by rw [ht]; exact sortI_mem.2 (List.mem_map_of_mem (f := (·.1)) (mem_lookG hX))) X hX, fun j hj => ?_, by rw [h.out, ht], h.who⟩
  rw [h.todo j (by rw [ht]; exact fun hm => look_noneG.1 hj (sortI_mem.1 hm))]
  exact hj
end
end Go.Proofs.Ytoiplcicbjimlaa
namespace Go.Proofs.Ytoiplcicbjimlaa
open Go.RowKit

set_option maxRecDepth 100000 in
set_option maxHeartbeats 400000 in
theorem rvRising_any (w : World) (r mb : Nat) (F C rep : Int) (L : List (Int × PlX)) (hb : (cellC r 86 [.int .i64 F, .int .i64 C, .int .i64 rep, .map (some mb)]).ok w) (hm : MapAt w mb (Value.int .i64) encX L) (hl : L.length ≤ 1000) (hs : ∀ x ∈ L, I64 x.1) :
    Calls Try.prog 36 #[(.pointer (some ⟨r, 0, none⟩))] w fun e w' => ∃ u, e = .returned u ∧ (rowC 3 1 u (sortI L).length ((sortI L).flatMap encI)).ok w' ∧ Upd [] w w' ∧ ∀ q_, (rowC 3 1 u (sortI L).length ((sortI L).flatMap encI)).fp q_ → w.heap.size ≤ q_ := by
  have H := Sat.start0 w
  refine calls_fr Try.func36 rfl 9 rfl (Nat.le_of_ble_eq_true rfl) ?_
  refine w_seq ?_
  refine w_lit ?_
  refine wl_pure (wants0 rfl) (d := 2) (v := (.slice none 0 0)) rfl (by kernel_rfl) ?_
  refine w_nil ?_
  refine then_normal ?_
  refine w_seq ?_
  refine w_lit ?_
  refine wl_pure (wants0 rfl) (d := 3) (v := (.pointer (some ⟨r, 0, none⟩))) rfl (by kernel_rfl) ?_
  refine wl_pure (wants0 rfl) (d := 4) (v := (.pointer (some ⟨r, 0, none⟩))) rfl (by kernel_rfl) ?_
  refine wl_pure (wants0 rfl) (d := 5) (v := (.pointer (some ⟨r, 3, none⟩))) rfl (by kernel_rfl) ?_
  refine wl_pure (wants0 rfl) (d := 6) (v := (.map (some mb))) rfl (e_load1 rfl (by kernel_rfl) (H.roCell 0 rfl hb (fun h => h) rfl)) ?_
  refine wl_do (wants0 rfl) (fun K1 hK1 => ?_)
  refine d_call (d := 7) rfl (by kernel_rfl) (sortPK_any w mb) ?_
  rintro _ w2 ⟨rfl, hww2⟩
  obtain ⟨b3, hbb3⟩ : ∃ q_, q_ = (w).heap.size := ⟨_, rfl⟩
  have H4 : Sat w [restC w (fun _ => False), cellC b3 84 ([(.map (some mb))] : List Value)] w2 := by rw [hww2, hbb3]; exact H.addU ((Upd.refl _ _).alloc _) (heap_alloc_at _ _) (fun _ h => h ▸ Nat.le_refl _)
  rw [← hbb3]
  refine ⟨_, rfl, ?_⟩
  refine hK1 _ _ ?_
  clear hK1 K1
  refine wl_do (wants0 rfl) (fun K5 hK5 => ?_)
  refine d_call (d := 8) rfl (by kernel_rfl) (sortPS_any (encV := encX) w2 mb b3 L (H4.cell 1 rfl rfl) (H4.roMap 0 rfl hm (fun h => h)) (by omega) hs) ?_
  rintro _ w6 ⟨u7, rfl, k8, p9, q10⟩
  have H11 : Sat w [restC w (fun _ => False), cellC b3 84 ([(.map (some mb))] : List Value), rowC 3 1 u7 ((sortI L).length) ((sortI L).flatMap encI)] w6 := H4.addU p9 k8 q10
  obtain ⟨a12, c13, rfl⟩ := ownsRow_shape (H11.at 2 rfl)
  refine ⟨_, rfl, ?_⟩
  refine hK5 _ _ ?_
  clear hK5 K5
  refine wl_pure (wants0 rfl) (d := 2) (v := (.slice a12 ((sortI L).length) c13)) rfl (by kernel_rfl) ?_
  refine w_nil ?_
  refine then_normal ?_
  refine w_ret ?_
  refine end1 rfl (res_tmp (v := (.slice a12 ((sortI L).length) c13)) rfl) ?_
  exact ⟨_, rfl, H11.at 2 rfl, H11.upd 0 rfl [] (fun _ h => h.elim), H11.fresh 0 rfl (fun _ h => h) 2 rfl rfl⟩

set_option maxRecDepth 100000 in
set_option maxHeartbeats 2000000 in
theorem rvCount_any (w : World) (r mb : Nat) (F C rep : Int) (L : List (Int × PlX)) (hB : (sepC (rvL r mb F C rep L)).ok w) (d : DenyD) (X : PlX) (hX : lookM L d.i = some X) :
    Calls Try.prog 38 #[(.pointer (some ⟨r, 0, none⟩)), (.agg ⟨([(.int .i64 (d.r)), (.int .i64 (d.i)), (.int .i64 (d.sb)), (.int .i64 (d.sm))] : List Value)⟩)] w fun e w' => ∃ M, e = .returned (.bool (!(lookM X.D d.r).isSome)) ∧ CountR L d X M ∧ Sat w [cellC r 86 [.int .i64 F, .int .i64 C, .int .i64 rep, .map (some mb)], mapC mb (Value.int .i64) encX M, denC M, restC w (sepC (rvL r mb F C rep L)).fp] w' := by
  obtain ⟨⟨xa, xb, xh, xt, xs, xi, xo, xl, xc, xn, xk, xd, dm⟩, D, pay⟩ := X
  have hdm := (denC_get (hB.1 (denC L) (by simp [rvL])) hX).1
  obtain ⟨db, hdm, _⟩ := hdm
  obtain rfl : dm = some db := hdm
  have H : Sat w [cellC r 86 ([(.int .i64 (F)), (.int .i64 (C)), (.int .i64 (rep)), (.map (some mb))] : List Value), mapC mb (Value.int .i64) encX L, denC L, restC w (sepC (rvL r mb F C rep L)).fp] w := Sat.start (rvL r mb F C rep L) hB
  refine calls_fr Try.func38 rfl 40 rfl (Nat.le_of_ble_eq_true rfl) ?_
  refine w_seq ?_
  refine w_lit ?_
  refine wl_do (wants0 rfl) (fun K1 hK1 => ?_)
  refine d_box (vs := ([(.int .i64 (d.r)), (.int .i64 (d.i)), (.int .i64 (d.sb)), (.int .i64 (d.sm))] : List Value)) rfl H rfl rfl ?_
  intro b2 w3 (H4 : Sat w [cellC r 86 ([(.int .i64 (F)), (.int .i64 (C)), (.int .i64 (rep)), (.map (some mb))] : List Value), mapC mb (Value.int .i64) encX L, denC L, restC w (sepC (rvL r mb F C rep L)).fp, cellC b2 63 ([(.int .i64 (d.r)), (.int .i64 (d.i)), (.int .i64 (d.sb)), (.int .i64 (d.sm))] : List Value)] w3)
  refine hK1 _ _ ?_
  clear hK1 K1
  refine wl_pure (wants0 rfl) (d := 4) (v := (.bool false)) rfl (by kernel_rfl) ?_
  refine w_nil ?_
  refine then_normal ?_
  refine w_seq ?_
  refine h_start H4 [cellC r 86 ([(.int .i64 (F)), (.int .i64 (C)), (.int .i64 (rep)), (.map (some mb))] : List Value), mapC mb (Value.int .i64) encX L, denC L, restC w (sepC (rvL r mb F C rep L)).fp, cellC b2 63 ([(.int .i64 (d.r)), (.int .i64 (d.i)), (.int .i64 (d.sb)), (.int .i64 (d.sm))] : List Value)] 9 rfl (by kernel_rfl) (fun Hx => (Hx.pick [0, 1, 2, 3, 4] (by decide))) ?_
  intro w5 H6 S7
  refine h_val 0 rfl (by kernel_rfl) (by kernel_rfl) (by kernel_rfl) (fun _ _ _ h => h) S7 (wants0 rfl) (d := 8) (v := (.pointer (some ⟨r, 0, none⟩))) rfl (fun _ H' => (by kernel_rfl)) ?_
  refine h_val 1 rfl (by kernel_rfl) (by kernel_rfl) (by kernel_rfl) (fun _ _ _ h => h) S7 (wants0 rfl) (d := 9) (v := (.pointer (some ⟨r, 0, none⟩))) rfl (fun _ H' => (by kernel_rfl)) ?_
  refine h_val 2 rfl (by kernel_rfl) (by kernel_rfl) (by kernel_rfl) (fun _ _ _ h => h) S7 (wants0 rfl) (d := 10) (v := (.pointer (some ⟨r, 3, none⟩))) rfl (fun _ H' => (by kernel_rfl)) ?_
  refine h_val 3 rfl (by kernel_rfl) (by kernel_rfl) (by kernel_rfl) (fun _ _ _ h => h) S7 (wants0 rfl) (d := 11) (v := (.map (some mb))) rfl (fun _ H' => (e_load1 rfl (by kernel_rfl) (H'.cell 0 rfl rfl))) ?_
  refine h_val 4 rfl (by kernel_rfl) (by kernel_rfl) (by kernel_rfl) (fun _ _ _ h => h) S7 (wants0 rfl) (d := 12) (v := (.pointer (some ⟨b2, 1, none⟩))) rfl (fun _ H' => (by kernel_rfl)) ?_
  refine h_val 5 rfl (by kernel_rfl) (by kernel_rfl) (by kernel_rfl) (fun _ _ _ h => h) S7 (wants0 rfl) (d := 13) (v := (.int .i64 (d.i))) rfl (fun _ H' => (e_load1 rfl (by kernel_rfl) (H'.cell 4 rfl rfl))) ?_
  refine h_val 6 rfl (by kernel_rfl) (by kernel_rfl) (by kernel_rfl) (fun _ _ _ h => h) S7 (wants0 rfl) (d := 14) (v := (.agg ⟨(([(.int .i64 (xa)), (.int .i64 (xb))] : List Value) ++ hc xh ++ ([(.int .u64 (xt)), (.int .u64 (xs)), (.int .i64 (xi)), (.slice xo xl xc)] : List Value) ++ hc xn ++ ([(.bool (xk)), (.bool (xd)), (.map (some db))] : List Value))⟩)) rfl (fun _ H' => (e_lookup (kt := 3) (et := 89) (KeyTy.int (by kernel_rfl)) (by kernel_rfl) zeroX rfl (d.i : Int) rfl (H'.at 1 rfl) (by rw [hX]; rfl))) ?_
  refine h_do 7 rfl (by kernel_rfl) (wants0 rfl) (fun K8 hK8 => ?_)
  refine d_alloc (zs := (([(.int .i64 (0)), (.int .i64 (0))] : List Value) ++ hc hash0 ++ ([(.int .u64 (0)), (.int .u64 (0)), (.int .i64 (0)), (.slice none 0 0)] : List Value) ++ hc hash0 ++ ([(.bool false), (.bool false), ((Go.Value.map none))] : List Value))) (z := (.agg ⟨(([(.int .i64 (0)), (.int .i64 (0))] : List Value) ++ hc hash0 ++ ([(.int .u64 (0)), (.int .u64 (0)), (.int .i64 (0)), (.slice none 0 0)] : List Value) ++ hc hash0 ++ ([(.bool false), (.bool false), ((Go.Value.map none))] : List Value))⟩)) rfl H6 (by kernel_rfl) (by kernel_rfl) ?_
  intro b9 w10 (H11 : Sat w [cellC r 86 ([(.int .i64 (F)), (.int .i64 (C)), (.int .i64 (rep)), (.map (some mb))] : List Value), mapC mb (Value.int .i64) encX L, denC L, restC w (sepC (rvL r mb F C rep L)).fp, cellC b2 63 ([(.int .i64 (d.r)), (.int .i64 (d.i)), (.int .i64 (d.sb)), (.int .i64 (d.sm))] : List Value), cellC b9 89 (([(.int .i64 (0)), (.int .i64 (0))] : List Value) ++ hc hash0 ++ ([(.int .u64 (0)), (.int .u64 (0)), (.int .i64 (0)), (.slice none 0 0)] : List Value) ++ hc hash0 ++ ([(.bool false), (.bool false), ((Go.Value.map none))] : List Value))] w10)
  have S12 := H11.pick [0, 1, 2, 3, 4] (by decide)
  refine hK8 _ _ S12 ?_
  clear hK8 K8
  refine h_do 8 rfl (by kernel_rfl) (wants0 rfl) (fun K13 hK13 => ?_)
  refine d_storeX (vs := (([(.int .i64 (xa)), (.int .i64 (xb))] : List Value) ++ hc xh ++ ([(.int .u64 (xt)), (.int .u64 (xs)), (.int .i64 (xi)), (.slice xo xl xc)] : List Value) ++ hc xn ++ ([(.bool (xk)), (.bool (xd)), (.map (some db))] : List Value))) (cs' := (([(.int .i64 (xa)), (.int .i64 (xb))] : List Value) ++ hc xh ++ ([(.int .u64 (xt)), (.int .u64 (xs)), (.int .i64 (xi)), (.slice xo xl xc)] : List Value) ++ hc xn ++ ([(.bool (xk)), (.bool (xd)), (.map (some db))] : List Value))) rfl H11 5 rfl rfl rfl rfl (by kernel_rfl) (Nat.le_of_ble_eq_true (by kernel_rfl)) (Nat.le_of_ble_eq_true (by kernel_rfl)) (by kernel_rfl) (by kernel_rfl) ?_
  intro w14 (H15 : Sat w [cellC r 86 ([(.int .i64 (F)), (.int .i64 (C)), (.int .i64 (rep)), (.map (some mb))] : List Value), mapC mb (Value.int .i64) encX L, denC L, restC w (sepC (rvL r mb F C rep L)).fp, cellC b2 63 ([(.int .i64 (d.r)), (.int .i64 (d.i)), (.int .i64 (d.sb)), (.int .i64 (d.sm))] : List Value), cellC b9 89 (([(.int .i64 (xa)), (.int .i64 (xb))] : List Value) ++ hc xh ++ ([(.int .u64 (xt)), (.int .u64 (xs)), (.int .i64 (xi)), (.slice xo xl xc)] : List Value) ++ hc xn ++ ([(.bool (xk)), (.bool (xd)), (.map (some db))] : List Value))] w14)
  have S17 := H15.pick [0, 1, 2, 3, 4] (by decide)
  refine hK13 _ _ S17 ?_
  clear hK13 K13
  refine h_fin (by kernel_rfl) ?_
  refine then_normal ?_
  refine w_seq ?_
  refine w_seq ?_
  refine w_lit ?_
  refine wl_pure (wants0 rfl) (d := 16) (v := (.pointer (some ⟨b9, 72, none⟩))) rfl (by kernel_rfl) ?_
  refine wl_pure (wants0 rfl) (d := 17) (v := (.map (some db))) rfl (e_load1 rfl (by kernel_rfl) (H15.cell 5 rfl (by kernel_rfl))) ?_
  refine wl_pure (wants0 rfl) (d := 18) (v := (.pointer (some ⟨b2, 0, none⟩))) rfl (by kernel_rfl) ?_
  refine wl_pure (wants0 rfl) (d := 19) (v := (.int .i64 (d.r))) rfl (e_load1 rfl (by kernel_rfl) (H15.cell 4 rfl rfl)) ?_
  refine wl_pure (wants0 rfl) (d := 20) (v := (.tuple #[(.agg ⟨([(.int .i64 (((lookM D (d.r : Int)).getD deny0).r)), (.int .i64 (((lookM D (d.r : Int)).getD deny0).i)), (.int .i64 (((lookM D (d.r : Int)).getD deny0).sb)), (.int .i64 (((lookM D (d.r : Int)).getD deny0).sm))] : List Value)⟩), (.bool ((lookM D (d.r : Int)).isSome))])) rfl (e_lookup2 (kt := 3) (et := 63) (KeyTy.int (by kernel_rfl)) (by kernel_rfl) zeroDn rfl (d.r : Int) rfl (den_map (H15.at 2 rfl) hX rfl) (optD denV _ _) rfl) ?_
  refine wl_pure (wants0 rfl) (d := 15) (v := (.tuple #[(.agg ⟨([(.int .i64 (((lookM D (d.r : Int)).getD deny0).r)), (.int .i64 (((lookM D (d.r : Int)).getD deny0).i)), (.int .i64 (((lookM D (d.r : Int)).getD deny0).sb)), (.int .i64 (((lookM D (d.r : Int)).getD deny0).sm))] : List Value)⟩), (.bool ((lookM D (d.r : Int)).isSome))])) rfl (by kernel_rfl) ?_
  refine wl_pure (wants0 rfl) (d := 21) (v := (.agg ⟨([(.int .i64 (((lookM D (d.r : Int)).getD deny0).r)), (.int .i64 (((lookM D (d.r : Int)).getD deny0).i)), (.int .i64 (((lookM D (d.r : Int)).getD deny0).sb)), (.int .i64 (((lookM D (d.r : Int)).getD deny0).sm))] : List Value)⟩)) rfl (by kernel_rfl) ?_
  refine wl_pure (wants0 rfl) (d := 22) (v := (.bool ((lookM D (d.r : Int)).isSome))) rfl (by kernel_rfl) ?_
  refine wl_do (wants0 rfl) (fun K18 hK18 => ?_)
  refine d_alloc (zs := ([(.int .i64 (0)), (.int .i64 (0)), (.int .i64 (0)), (.int .i64 (0))] : List Value)) (z := (.agg ⟨([(.int .i64 (0)), (.int .i64 (0)), (.int .i64 (0)), (.int .i64 (0))] : List Value)⟩)) rfl H15 (by kernel_rfl) (by kernel_rfl) ?_
  intro b19 w20 (H21 : Sat w [cellC r 86 ([(.int .i64 (F)), (.int .i64 (C)), (.int .i64 (rep)), (.map (some mb))] : List Value), mapC mb (Value.int .i64) encX L, denC L, restC w (sepC (rvL r mb F C rep L)).fp, cellC b2 63 ([(.int .i64 (d.r)), (.int .i64 (d.i)), (.int .i64 (d.sb)), (.int .i64 (d.sm))] : List Value), cellC b9 89 (([(.int .i64 (xa)), (.int .i64 (xb))] : List Value) ++ hc xh ++ ([(.int .u64 (xt)), (.int .u64 (xs)), (.int .i64 (xi)), (.slice xo xl xc)] : List Value) ++ hc xn ++ ([(.bool (xk)), (.bool (xd)), (.map (some db))] : List Value)), cellC b19 63 ([(.int .i64 (0)), (.int .i64 (0)), (.int .i64 (0)), (.int .i64 (0))] : List Value)] w20)
  refine hK18 _ _ ?_
  clear hK18 K18
  refine wl_do (wants0 rfl) (fun K22 hK22 => ?_)
  refine d_storeX (vs := ([(.int .i64 (((lookM D (d.r : Int)).getD deny0).r)), (.int .i64 (((lookM D (d.r : Int)).getD deny0).i)), (.int .i64 (((lookM D (d.r : Int)).getD deny0).sb)), (.int .i64 (((lookM D (d.r : Int)).getD deny0).sm))] : List Value)) (cs' := ([(.int .i64 (((lookM D (d.r : Int)).getD deny0).r)), (.int .i64 (((lookM D (d.r : Int)).getD deny0).i)), (.int .i64 (((lookM D (d.r : Int)).getD deny0).sb)), (.int .i64 (((lookM D (d.r : Int)).getD deny0).sm))] : List Value)) rfl H21 6 rfl rfl rfl rfl (by kernel_rfl) (Nat.le_of_ble_eq_true (by kernel_rfl)) (Nat.le_of_ble_eq_true (by kernel_rfl)) (by kernel_rfl) (by kernel_rfl) ?_
  intro w23 (H24 : Sat w [cellC r 86 ([(.int .i64 (F)), (.int .i64 (C)), (.int .i64 (rep)), (.map (some mb))] : List Value), mapC mb (Value.int .i64) encX L, denC L, restC w (sepC (rvL r mb F C rep L)).fp, cellC b2 63 ([(.int .i64 (d.r)), (.int .i64 (d.i)), (.int .i64 (d.sb)), (.int .i64 (d.sm))] : List Value), cellC b9 89 (([(.int .i64 (xa)), (.int .i64 (xb))] : List Value) ++ hc xh ++ ([(.int .u64 (xt)), (.int .u64 (xs)), (.int .i64 (xi)), (.slice xo xl xc)] : List Value) ++ hc xn ++ ([(.bool (xk)), (.bool (xd)), (.map (some db))] : List Value)), cellC b19 63 ([(.int .i64 (((lookM D (d.r : Int)).getD deny0).r)), (.int .i64 (((lookM D (d.r : Int)).getD deny0).i)), (.int .i64 (((lookM D (d.r : Int)).getD deny0).sb)), (.int .i64 (((lookM D (d.r : Int)).getD deny0).sm))] : List Value)] w23)
  refine hK22 _ _ ?_
  clear hK22 K22
  refine wl_pure (wants0 rfl) (d := 7) (v := (.bool ((lookM D (d.r : Int)).isSome))) rfl (by kernel_rfl) ?_
  refine w_nil ?_
  refine then_normal ?_
  refine w_seq ?_
  refine w_lit ?_
  refine wl_pure (wants0 rfl) (d := 23) (v := (.bool ((lookM D (d.r : Int)).isSome))) rfl (by kernel_rfl) ?_
  refine w_nil ?_
  refine then_normal ?_
  refine (bsplit ((lookM D (d.r : Int)).isSome)).elim (fun b26 => ?_) (fun b26 => ?_)
  · refine wp_know 23 (.bool true) (congrArg Value.bool b26) ?_
    refine wp_ift rfl ?_
    refine w_seq ?_
    refine w_lit ?_
    refine wl_pure (wants0 rfl) (d := 4) (v := (.bool false)) rfl (by kernel_rfl) ?_
    refine w_nil ?_
    refine then_normal ?_
    refine w_ret ?_
    refine then_ret ?_
    refine end1 rfl (res_tmp (v := (.bool false)) rfl) ?_
    exact ⟨L, by show _ = Ending.returned (.bool (!(lookM D d.r).isSome)); rw [b26]; rfl, ⟨(⟨(⟨xa, xb, xh, xt, xs, xi, xo, xl, xc, xn, xk, xd, some db⟩ : PlaceD), D, pay⟩ : PlX), rfl, rfl, rfl, rfl, rfl, by show D = if (lookM D d.r).isSome = true then D else _; rw [if_pos b26], fun j => by split; (rename_i e; rw [e]; exact hX); rfl, rfl⟩, H24.pick [0, 1, 2, 3] (by decide)⟩
  · refine wp_know 23 (.bool false) (congrArg Value.bool b26) ?_
    refine wp_iff rfl ?_
    refine w_skip ?_
    refine then_normal ?_
    refine w_seq ?_
    refine w_lit ?_
    refine wl_pure (wants0 rfl) (d := 24) (v := (.pointer (some ⟨b9, 72, none⟩))) rfl (by kernel_rfl) ?_
    refine wl_pure (wants0 rfl) (d := 25) (v := (.map (some db))) rfl (e_load1 rfl (by kernel_rfl) (H24.cell 5 rfl (by kernel_rfl))) ?_
    refine wl_do (wants0 rfl) (fun K27 hK27 => ?_)
    refine d_call (d := 26) rfl (by kernel_rfl) (clD_any db w23 (den_map (H24.at 2 rfl) hX rfl)) ?_
    rintro _ w29 ⟨b28, rfl, k30, p31, q32⟩
    have H33 : Sat w [cellC r 86 ([(.int .i64 (F)), (.int .i64 (C)), (.int .i64 (rep)), (.map (some mb))] : List Value), mapC mb (Value.int .i64) encX L, denC L, restC w (sepC (rvL r mb F C rep L)).fp, cellC b2 63 ([(.int .i64 (d.r)), (.int .i64 (d.i)), (.int .i64 (d.sb)), (.int .i64 (d.sm))] : List Value), cellC b9 89 (([(.int .i64 (xa)), (.int .i64 (xb))] : List Value) ++ hc xh ++ ([(.int .u64 (xt)), (.int .u64 (xs)), (.int .i64 (xi)), (.slice xo xl xc)] : List Value) ++ hc xn ++ ([(.bool (xk)), (.bool (xd)), (.map (some db))] : List Value)), cellC b19 63 ([(.int .i64 (((lookM D (d.r : Int)).getD deny0).r)), (.int .i64 (((lookM D (d.r : Int)).getD deny0).i)), (.int .i64 (((lookM D (d.r : Int)).getD deny0).sb)), (.int .i64 (((lookM D (d.r : Int)).getD deny0).sm))] : List Value), mapC b28 (Value.int .i64) denV D] w29 := H24.addU p31 k30 (fun _ h => h ▸ q32)
    refine ⟨_, rfl, ?_⟩
    refine hK27 _ _ ?_
    clear hK27 K27
    refine wl_pure (wants0 rfl) (d := 27) (v := (.pointer (some ⟨b9, 72, none⟩))) rfl (by kernel_rfl) ?_
    refine wl_do (wants0 rfl) (fun K34 hK34 => ?_)
    refine d_storeX (vs := ([(.map (some b28))] : List Value)) (cs' := (([(.int .i64 (xa)), (.int .i64 (xb))] : List Value) ++ hc xh ++ ([(.int .u64 (xt)), (.int .u64 (xs)), (.int .i64 (xi)), (.slice xo xl xc)] : List Value) ++ hc xn ++ ([(.bool (xk)), (.bool (xd)), (.map (some b28))] : List Value))) rfl H33 5 rfl rfl rfl rfl (by kernel_rfl) (Nat.le_of_ble_eq_true (by kernel_rfl)) (Nat.le_of_ble_eq_true (by kernel_rfl)) (by kernel_rfl) (by kernel_rfl) ?_
    intro w35 (H36 : Sat w [cellC r 86 ([(.int .i64 (F)), (.int .i64 (C)), (.int .i64 (rep)), (.map (some mb))] : List Value), mapC mb (Value.int .i64) encX L, denC L, restC w (sepC (rvL r mb F C rep L)).fp, cellC b2 63 ([(.int .i64 (d.r)), (.int .i64 (d.i)), (.int .i64 (d.sb)), (.int .i64 (d.sm))] : List Value), cellC b9 89 (([(.int .i64 (xa)), (.int .i64 (xb))] : List Value) ++ hc xh ++ ([(.int .u64 (xt)), (.int .u64 (xs)), (.int .i64 (xi)), (.slice xo xl xc)] : List Value) ++ hc xn ++ ([(.bool (xk)), (.bool (xd)), (.map (some b28))] : List Value)), cellC b19 63 ([(.int .i64 (((lookM D (d.r : Int)).getD deny0).r)), (.int .i64 (((lookM D (d.r : Int)).getD deny0).i)), (.int .i64 (((lookM D (d.r : Int)).getD deny0).sb)), (.int .i64 (((lookM D (d.r : Int)).getD deny0).sm))] : List Value), mapC b28 (Value.int .i64) denV D] w35)
    refine hK34 _ _ ?_
    clear hK34 K34
    refine w_nil ?_
    refine then_normal ?_
    refine w_seq ?_
    refine w_lit ?_
    refine wl_pure (wants0 rfl) (d := 28) (v := (.pointer (some ⟨b9, 72, none⟩))) rfl (by kernel_rfl) ?_
    refine wl_pure (wants0 rfl) (d := 29) (v := (.map (some b28))) rfl (e_load1 rfl (by kernel_rfl) (H36.cell 5 rfl (by kernel_rfl))) ?_
    refine wl_pure (wants0 rfl) (d := 30) (v := (.pointer (some ⟨b2, 0, none⟩))) rfl (by kernel_rfl) ?_
    refine wl_pure (wants0 rfl) (d := 31) (v := (.int .i64 (d.r))) rfl (e_load1 rfl (by kernel_rfl) (H36.cell 4 rfl rfl)) ?_
    refine wl_pure (wants0 rfl) (d := 32) (v := (.agg ⟨([(.int .i64 (d.r)), (.int .i64 (d.i)), (.int .i64 (d.sb)), (.int .i64 (d.sm))] : List Value)⟩)) rfl (e_loadN (vs := ([(.int .i64 (d.r)), (.int .i64 (d.i)), (.int .i64 (d.sb)), (.int .i64 (d.sm))] : List Value)) rfl (by kernel_rfl) (by kernel_rfl) (by exact Nat.le_of_ble_eq_true (by kernel_rfl)) (H36.at 4 rfl) (by kernel_rfl)) ?_
    refine wl_do (wants0 rfl) (fun K38 hK38 => ?_)
    refine d_mapUpdate (kt := 3) (et := 63) rfl H36 7 rfl (KeyTy.int (by kernel_rfl)) (by kernel_rfl) rfl (d.r : Int) rfl d rfl ?_
    intro w39 (H40 : Sat w [cellC r 86 ([(.int .i64 (F)), (.int .i64 (C)), (.int .i64 (rep)), (.map (some mb))] : List Value), mapC mb (Value.int .i64) encX L, denC L, restC w (sepC (rvL r mb F C rep L)).fp, cellC b2 63 ([(.int .i64 (d.r)), (.int .i64 (d.i)), (.int .i64 (d.sb)), (.int .i64 (d.sm))] : List Value), cellC b9 89 (([(.int .i64 (xa)), (.int .i64 (xb))] : List Value) ++ hc xh ++ ([(.int .u64 (xt)), (.int .u64 (xs)), (.int .i64 (xi)), (.slice xo xl xc)] : List Value) ++ hc xn ++ ([(.bool (xk)), (.bool (xd)), (.map (some b28))] : List Value)), cellC b19 63 ([(.int .i64 (((lookM D (d.r : Int)).getD deny0).r)), (.int .i64 (((lookM D (d.r : Int)).getD deny0).i)), (.int .i64 (((lookM D (d.r : Int)).getD deny0).sb)), (.int .i64 (((lookM D (d.r : Int)).getD deny0).sm))] : List Value), mapC b28 (Value.int .i64) denV (putM D (d.r : Int) d)] w39)
    refine hK38 _ _ ?_
    clear hK38 K38
    refine w_nil ?_
    refine then_normal ?_
    refine w_seq ?_
    refine h_start H40 [cellC r 86 ([(.int .i64 (F)), (.int .i64 (C)), (.int .i64 (rep)), (.map (some mb))] : List Value), denC L, restC w (sepC (rvL r mb F C rep L)).fp, cellC b2 63 ([(.int .i64 (d.r)), (.int .i64 (d.i)), (.int .i64 (d.sb)), (.int .i64 (d.sm))] : List Value), cellC b9 89 (([(.int .i64 (xa)), (.int .i64 (xb))] : List Value) ++ hc xh ++ ([(.int .u64 (xt)), (.int .u64 (xs)), (.int .i64 (xi)), (.slice xo xl xc)] : List Value) ++ hc xn ++ ([(.bool (xk)), (.bool (xd)), (.map (some b28))] : List Value)), cellC b19 63 ([(.int .i64 (((lookM D (d.r : Int)).getD deny0).r)), (.int .i64 (((lookM D (d.r : Int)).getD deny0).i)), (.int .i64 (((lookM D (d.r : Int)).getD deny0).sb)), (.int .i64 (((lookM D (d.r : Int)).getD deny0).sm))] : List Value), mapC b28 (Value.int .i64) denV (putM D (d.r : Int) d)] 8 rfl (by kernel_rfl) (fun Hx => (Hx.pick [0, 2, 3, 4, 5, 6, 7] (by decide))) ?_
    intro w41 H42 S43
    refine h_val 0 rfl (by kernel_rfl) (by kernel_rfl) (by kernel_rfl) (fun _ _ _ h => h) S43 (wants0 rfl) (d := 33) (v := (.pointer (some ⟨r, 0, none⟩))) rfl (fun _ H' => (by kernel_rfl)) ?_
    refine h_val 1 rfl (by kernel_rfl) (by kernel_rfl) (by kernel_rfl) (fun _ _ _ h => h) S43 (wants0 rfl) (d := 34) (v := (.pointer (some ⟨r, 0, none⟩))) rfl (fun _ H' => (by kernel_rfl)) ?_
    refine h_val 2 rfl (by kernel_rfl) (by kernel_rfl) (by kernel_rfl) (fun _ _ _ h => h) S43 (wants0 rfl) (d := 35) (v := (.pointer (some ⟨r, 3, none⟩))) rfl (fun _ H' => (by kernel_rfl)) ?_
    refine h_val 3 rfl (by kernel_rfl) (by kernel_rfl) (by kernel_rfl) (fun _ _ _ h => h) S43 (wants0 rfl) (d := 36) (v := (.map (some mb))) rfl (fun _ H' => (e_load1 rfl (by kernel_rfl) (H'.cell 0 rfl rfl))) ?_
    refine h_val 4 rfl (by kernel_rfl) (by kernel_rfl) (by kernel_rfl) (fun _ _ _ h => h) S43 (wants0 rfl) (d := 37) (v := (.pointer (some ⟨b2, 1, none⟩))) rfl (fun _ H' => (by kernel_rfl)) ?_
    refine h_val 5 rfl (by kernel_rfl) (by kernel_rfl) (by kernel_rfl) (fun _ _ _ h => h) S43 (wants0 rfl) (d := 38) (v := (.int .i64 (d.i))) rfl (fun _ H' => (e_load1 rfl (by kernel_rfl) (H'.cell 3 rfl rfl))) ?_
    refine h_val 6 rfl (by kernel_rfl) (by kernel_rfl) (by kernel_rfl) (fun _ _ _ h => h) S43 (wants0 rfl) (d := 39) (v := (.agg ⟨(([(.int .i64 (xa)), (.int .i64 (xb))] : List Value) ++ hc xh ++ ([(.int .u64 (xt)), (.int .u64 (xs)), (.int .i64 (xi)), (.slice xo xl xc)] : List Value) ++ hc xn ++ ([(.bool (xk)), (.bool (xd)), (.map (some b28))] : List Value))⟩)) rfl (fun _ H' => (e_loadN (vs := (([(.int .i64 (xa)), (.int .i64 (xb))] : List Value) ++ hc xh ++ ([(.int .u64 (xt)), (.int .u64 (xs)), (.int .i64 (xi)), (.slice xo xl xc)] : List Value) ++ hc xn ++ ([(.bool (xk)), (.bool (xd)), (.map (some b28))] : List Value))) rfl (by kernel_rfl) (by kernel_rfl) (by exact Nat.le_of_ble_eq_true (by kernel_rfl)) (H'.at 4 rfl) (by kernel_rfl))) ?_
    refine h_do 7 rfl (by kernel_rfl) (wants0 rfl) (fun K44 hK44 => ?_)
    refine d_mapUpdate (kt := 3) (et := 89) rfl H42 1 rfl (KeyTy.int (by kernel_rfl)) (by kernel_rfl) rfl (d.i : Int) rfl (⟨(⟨xa, xb, xh, xt, xs, xi, xo, xl, xc, xn, (xk), (xd), some b28⟩ : PlaceD), (putM D (d.r : Int) d), pay⟩ : PlX) rfl ?_
    intro w45 (H46 : Sat w [cellC r 86 ([(.int .i64 (F)), (.int .i64 (C)), (.int .i64 (rep)), (.map (some mb))] : List Value), mapC mb (Value.int .i64) encX (putM L (d.i : Int) (⟨(⟨xa, xb, xh, xt, xs, xi, xo, xl, xc, xn, (xk), (xd), some b28⟩ : PlaceD), (putM D (d.r : Int) d), pay⟩ : PlX)), denC L, restC w (sepC (rvL r mb F C rep L)).fp, cellC b2 63 ([(.int .i64 (d.r)), (.int .i64 (d.i)), (.int .i64 (d.sb)), (.int .i64 (d.sm))] : List Value), cellC b9 89 (([(.int .i64 (xa)), (.int .i64 (xb))] : List Value) ++ hc xh ++ ([(.int .u64 (xt)), (.int .u64 (xs)), (.int .i64 (xi)), (.slice xo xl xc)] : List Value) ++ hc xn ++ ([(.bool (xk)), (.bool (xd)), (.map (some b28))] : List Value)), cellC b19 63 ([(.int .i64 (((lookM D (d.r : Int)).getD deny0).r)), (.int .i64 (((lookM D (d.r : Int)).getD deny0).i)), (.int .i64 (((lookM D (d.r : Int)).getD deny0).sb)), (.int .i64 (((lookM D (d.r : Int)).getD deny0).sm))] : List Value), mapC b28 (Value.int .i64) denV (putM D (d.r : Int) d)] w45)
    have S47 := H46.pick [0, 2, 3, 4, 5, 6, 7] (by decide)
    refine hK44 _ _ S47 ?_
    clear hK44 K44
    refine h_fin (by kernel_rfl) ?_
    refine then_normal ?_
    refine w_seq ?_
    refine w_lit ?_
    refine wl_pure (wants0 rfl) (d := 4) (v := (.bool true)) rfl (by kernel_rfl) ?_
    refine w_nil ?_
    refine then_normal ?_
    refine w_ret ?_
    refine end1 rfl (res_tmp (v := (.bool true)) rfl) ?_
    have H48 := den_count (i := d.i) (X := (⟨(⟨xa, xb, xh, xt, xs, xi, xo, xl, xc, xn, xk, xd, some db⟩ : PlaceD), D, pay⟩ : PlX)) (X' := (⟨(⟨xa, xb, xh, xt, xs, xi, xo, xl, xc, xn, (xk), (xd), some b28⟩ : PlaceD), (putM D (d.r : Int) d), pay⟩ : PlX)) (H46.pick [2, 7, 0, 1, 3, 4, 5, 6] (by decide)) hX rfl rfl
    exact ⟨_, by show _ = Ending.returned (.bool (!(lookM D d.r).isSome)); rw [b26]; rfl, ⟨(⟨(⟨xa, xb, xh, xt, xs, xi, xo, xl, xc, xn, (xk), (xd), some b28⟩ : PlaceD), (putM D (d.r : Int) d), pay⟩ : PlX), rfl, rfl, rfl, rfl, rfl, by show putM D d.r d = if (lookM D d.r).isSome = true then D else _; rw [if_neg (by rw [b26]; decide)], fun j => look_putG L d.i j _, keys_putS hX⟩, H48.pick [1, 2, 0, 3] (by decide)⟩

end Go.Proofs.Ytoiplcicbjimlaa
