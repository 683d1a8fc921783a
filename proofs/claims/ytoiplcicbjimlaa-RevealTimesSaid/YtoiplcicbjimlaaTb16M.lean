/- WHAT IS PROVED: plain laws of RevealTombs: who has denied a place. Conditions: stated with each. -/
import Derived.Test.YtoiplcicbjimlaaRvE
import Derived.Test.YtoiplcicbjimlaaKp16
import Derived.Test.YtoiplcicbjimlaaArrB
namespace Go.Proofs.Ytoiplcicbjimlaa
open Go.RowKit
/-- a place as the statements make it -/
def GoodP (rep i : Int) (X : PlX) : Prop :=
  X.p.n1 = 1 ∧ X.p.n2 = 1 + withinV i 9 ∧ X.p.h = entH i ∧ 0 ≤ X.p.since ∧ (X.p.acked = true → X.p.denied = false ∧ X.p.oi = i) ∧ X.pay.length ≤ 256 ∧ (X.D = [] ∨ ∃ d, X.D = [(rep, d)])
structure PlI (K rep : Int) (L : List (Int × PlX)) : Prop where
  nd : (L.map (·.1)).Nodup
  rng : ∀ x ∈ L, 0 ≤ x.1 ∧ x.1 < K
  all : ∀ i X, lookM L i = some X → GoodP rep i X
section
variable {K rep : Int} {L M : List (Int × PlX)} {i now : Int} {X : PlX} {O : List DenyD}
theorem PlI.nil (K rep : Int) : PlI K rep [] := ⟨List.nodup_nil, by simp, fun i X h => by simp [lookM] at h⟩
theorem PlI.put (h : PlI K rep L) (hi : 0 ≤ i ∧ i < K) (hX : GoodP rep i X) : PlI K rep (putM L i X) := by
  refine ⟨?_, fun x hx => ?_, fun j Y hY => ?_⟩
  · rw [keys_putG]
    split
    · exact h.nd
    · rename_i q
      rw [List.nodup_append]
      exact ⟨h.nd, by simp, fun a ha b hb e => by rw [List.mem_singleton.1 hb] at e; exact q (e ▸ ha)⟩
  · rcases mem_putG hx with rfl | hx
    · exact hi
    · exact h.rng x hx
  · rw [look_putG] at hY
    split at hY
    · rename_i e; cases hY; rw [e]; exact hX
    · exact h.all j Y hY
theorem PlI.same (h : PlI K rep L) (hk : M.map (·.1) = L.map (·.1)) (ha : ∀ j Y, lookM M j = some Y → GoodP rep j Y) : PlI K rep M := by
  refine ⟨hk ▸ h.nd, fun x hx => ?_, ha⟩
  have h1 : x.1 ∈ L.map (·.1) := hk ▸ List.mem_map_of_mem hx
  obtain ⟨y, hy, e⟩ := List.mem_map.1 h1
  have := h.rng y hy
  rw [← e]; exact this
theorem PlI.key (h : PlI K rep L) (hX : lookM L i = some X) : 0 ≤ i ∧ i < K := h.rng _ (mem_lookG hX)
theorem PlI.i64 (h : PlI K rep L) (hK : K ≤ 1000000) : ∀ x ∈ L, I64 x.1 := fun x hx => by
  have := h.rng x hx
  unfold I64; omega
theorem PlI.mem (h : PlI K rep L) {x : Int × PlX} (hx : x ∈ L) : GoodP rep x.1 x.2 := h.all x.1 x.2 (look_memG h.nd hx)
theorem PlI.since (h : PlI K rep L) : ∀ x ∈ L, 0 ≤ x.2.p.since := fun _ hx => (h.mem hx).2.2.2.1
theorem PlI.pay (h : PlI K rep L) : ∀ x ∈ L, x.2.pay.length ≤ 256 := fun _ hx => (h.mem hx).2.2.2.2.2.1
theorem PlI.dens (h : PlI K rep L) (hr : I64 rep) : ∀ x ∈ L, x.2.D.length ≤ 1000 ∧ ∀ d ∈ x.2.D, I64 d.1 := fun _ hx => by
  rcases (h.mem hx).2.2.2.2.2.2 with e | ⟨d, e⟩
  · rw [e]; simp
  · rw [e]; simp; exact hr
theorem PlI.place {a b : Int} {c : Hash} (h : PlI K rep L) (hR : PlaceR L i (a, b, c, now) M) (hi : 0 ≤ i ∧ i < K) (ha : a = 1) (hb : b = 1 + withinV i 9) (hc : c = entH i) (hn : 0 ≤ now) : PlI K rep M := by
  rcases hR with ⟨_, rfl⟩ | ⟨_, X, h1, h2, h3, h4, h5, h6, rfl⟩
  · exact h
  · refine h.put hi ?_
    simp only [coreX, Prod.mk.injEq] at h1
    exact ⟨h1.1.trans ha, h1.2.1.trans hb, h1.2.2.1.trans hc, by rw [h1.2.2.2]; exact hn, (fun e => by rw [h2] at e; cases e), by rw [h6]; simp, .inl h4⟩
theorem PlaceR.len {c : Int × Int × Hash × Int} (hR : PlaceR L i c M) : M.length ≤ L.length + 1 := by
  rcases hR with ⟨_, rfl⟩ | ⟨_, X, _, _, _, _, _, _, rfl⟩
  · omega
  · have := congrArg List.length (keys_putG (l := L) (a := i) (v := X))
    split at this <;> simp at this <;> omega
theorem PlaceR.look {c : Int × Int × Hash × Int} (hR : PlaceR L i c M) : (∀ j, j ≠ i → lookM M j = lookM L j) ∧ (lookM M i).isSome = true ∧ ackB M i = ackB L i ∧ denB M i = denB L i := by
  rcases hR with ⟨⟨X, hX⟩, rfl⟩ | ⟨h0, X, h1, h2, h3, h4, h5, h6, rfl⟩
  · exact ⟨fun _ _ => rfl, by rw [hX]; rfl, rfl, rfl⟩
  · refine ⟨fun j hj => look_put_other _ _ _ _ hj, by rw [look_put_same]; rfl, ?_, ?_⟩
    · unfold ackB; rw [look_put_same, h0]; simp [h2]
    · unfold denB; rw [look_put_same, h0]; simp [h3]
theorem PlI.open {p : List UInt8} {code : Int} (h : PlI K rep L) (hR : OpenR L i p code M) (hp : p.length ≤ 256) : PlI K rep M ∧ M.length = L.length := by
  rcases hR with ⟨_, _, rfl⟩ | ⟨X, hX, ⟨_, _, rfl⟩ | ⟨h1, h2, ⟨_, rfl⟩ | ⟨h3, X', h4, h5, h6, h7, h8, h9, rfl⟩⟩⟩
  · exact ⟨h, rfl⟩
  · exact ⟨h, rfl⟩
  · exact ⟨h, rfl⟩
  · have g := h.all i X hX
    simp only [coreX, Prod.mk.injEq] at h7
    refine ⟨h.put (h.key hX) ⟨h7.1.trans g.1, h7.2.1.trans g.2.1, h7.2.2.1.trans g.2.2.1, by rw [h7.2.2.2]; exact g.2.2.2.1, fun _ => ⟨h5, h6⟩, by rw [h9]; exact hp, by rw [h8]; exact g.2.2.2.2.2.2⟩, ?_⟩
    have := congrArg List.length (keys_putS (v := X') hX)
    simpa using this
theorem OpenR.look {p : List UInt8} {code : Int} (hR : OpenR L i p code M) :
    (∀ j, j ≠ i → lookM M j = lookM L j) ∧ (lookM M i).isSome = (lookM L i).isSome ∧ denB M i = denB L i ∧ decide (code = 0) = ((lookM L i).isSome && !denB L i) ∧ ackB M i = (ackB L i || decide (code = 0)) := by
  rcases hR with ⟨h0, rfl, rfl⟩ | ⟨X, hX, ⟨h1, rfl, rfl⟩ | ⟨h1, rfl, ⟨h2, rfl⟩ | ⟨h3, X', h4, h5, h6, h7, h8, h9, rfl⟩⟩⟩
  · exact ⟨fun _ _ => rfl, rfl, rfl, by rw [h0]; rfl, by simp⟩
  · exact ⟨fun _ _ => rfl, rfl, rfl, by unfold denB; rw [hX]; simp [h1], by simp⟩
  · exact ⟨fun _ _ => rfl, rfl, rfl, by unfold denB; rw [hX]; simp [h1], by unfold ackB; rw [hX]; simp [h2]⟩
  · exact ⟨fun j hj => look_put_other _ _ _ _ hj, by rw [look_put_same, hX]; rfl, by unfold denB; rw [look_put_same, hX]; simp [h1, h5], by unfold denB; rw [hX]; simp [h1], by unfold ackB; rw [look_put_same]; simp [h4]⟩
theorem PlI.mat (h : PlI K rep L) {p : List UInt8} (hp : p = [UInt8.ofNat (withinV i 9).toNat]) : ∀ X, lookM L i = some X → X.p.h = shaR (ofT X.p.n1 X.p.n2 (hash1 7) p) ∧ X.p.n1 ≤ 9223372036854775807 ∧ X.p.n2 ≤ 9223372036854775807 := fun X hX => by
  have g := h.all i X hX
  have hw := within_lim i 9 (by omega)
  rw [g.2.2.1, g.1, g.2.1, hp]
  exact ⟨rfl, by omega, by omega⟩
theorem PlI.due (h : PlI K rep L) (hR : DueR rep now L M O) : PlI K rep M := by
  refine h.same hR.keys fun j Y hY => ?_
  cases hX : lookM L j with
  | none => rw [hR.none j hX] at hY; cases hY
  | some X =>
    obtain ⟨Y', hY', h1, h2, h3, h4, h5, h6, h7⟩ := hR.done j X hX
    rw [hY] at hY'
    cases hY'
    have g := h.all j X hX
    simp only [coreX, Prod.mk.injEq] at h1
    refine ⟨h1.1.trans g.1, h1.2.1.trans g.2.1, h1.2.2.1.trans g.2.2.1, by rw [h1.2.2.2]; exact g.2.2.2.1, fun e => ?_, by rw [h4]; exact g.2.2.2.2.2.1, ?_⟩
    · have ha : X.p.acked = true := by rw [← h2]; exact e
      obtain ⟨q1, q2⟩ := g.2.2.2.2.1 ha
      exact ⟨by rw [h5, q1]; simp [dueX, ha], h3.trans q2⟩
    · cases hd : dueX now X with
      | false => rw [h6 hd]; exact g.2.2.2.2.2.2
      | true =>
        obtain ⟨d, _, _, e⟩ := h7 hd
        rw [e]
        rcases g.2.2.2.2.2.2 with q | ⟨d0, q⟩
        · rw [q]; exact .inr ⟨d, rfl⟩
        · rw [q, if_pos (by simp [lookM])]; exact .inr ⟨d0, rfl⟩
theorem PlI.apart (h : PlI K rep L) (ha : ackB L i = true) : denB L i = false := by
  unfold ackB at ha
  unfold denB
  cases hX : lookM L i with
  | none => rfl
  | some X => rw [hX] at ha; exact ((h.all i X hX).2.2.2.2.1 ha).1
theorem DueR.len (hR : DueR rep now L M O) : M.length = L.length := by simpa using congrArg List.length hR.keys
theorem DueR.ack (hR : DueR rep now L M O) (j : Int) : ackB M j = ackB L j := by
  unfold ackB
  cases hX : lookM L j with
  | none => rw [hR.none j hX]
  | some X =>
    obtain ⟨Y, hY, h1, h2, _⟩ := hR.done j X hX
    rw [hY]; simp [h2]
theorem DueR.is (hR : DueR rep now L M O) (j : Int) : (lookM M j).isSome = (lookM L j).isSome := by
  cases hX : lookM L j with
  | none => rw [hR.none j hX]
  | some X =>
    obtain ⟨Y, hY, _⟩ := hR.done j X hX
    rw [hY]; rfl
theorem DueR.den (hR : DueR rep now L M O) (j : Int) : denB M j = (denB L j || decide (j ∈ O.map (·.i))) := by
  have hm : j ∈ O.map (·.i) ↔ j ∈ L.map (·.1) ∧ dueB now L j = true := by rw [hR.out, List.mem_filter, sortI_mem]
  cases hX : lookM L j with
  | none =>
    have : ¬ j ∈ O.map (·.i) := fun q => look_noneG.1 hX (hm.1 q).1
    unfold denB
    rw [hR.none j hX, hX, decide_eq_false this]; rfl
  | some X =>
    obtain ⟨Y, hY, h1, h2, h3, h4, h5, _⟩ := hR.done j X hX
    have hk : j ∈ L.map (·.1) := List.mem_map_of_mem (f := (·.1)) (mem_lookG hX)
    have hd : dueB now L j = dueX now X := by unfold dueB; rw [hX]; rfl
    have : decide (j ∈ O.map (·.i)) = dueX now X := by
      rw [Bool.eq_iff_iff, decide_eq_true_eq, hm, hd]
      exact ⟨fun q => q.2, fun q => ⟨hk, q⟩⟩
    rw [this]
    unfold denB
    rw [hY, hX]; simp [h5]
/-- what Due hands back: places that were there, neither opened nor denied, each once -/
theorem DueR.at (hR : DueR rep now L M O) (h : PlI K rep L) {m : Nat} {d : DenyD} (hd : O[m]? = some d) :
    (0 ≤ d.i ∧ d.i < K) ∧ d.r = rep ∧ ackB L d.i = false ∧ denB L d.i = false ∧ (lookM L d.i).isSome = true ∧ d.i ∉ (O.take m).map (·.i) := by
  have hm : d ∈ O := List.mem_of_getElem? hd
  have h1 : d.i ∈ (sortI L).filter (dueB now L) := by rw [← hR.out]; exact List.mem_map_of_mem hm
  obtain ⟨h2, h3⟩ := List.mem_filter.1 h1
  rw [sortI_mem] at h2
  cases hX : lookM L d.i with
  | none => exact absurd h2 (look_noneG.1 hX)
  | some X =>
    have h4 : dueX now X = true := by unfold dueB at h3; rw [hX] at h3; exact h3
    unfold dueX at h4
    simp only [Bool.and_eq_true, Bool.not_eq_true'] at h4
    refine ⟨h.key hX, hR.who d hm, by unfold ackB; rw [hX]; exact h4.1.1.1, by unfold denB; rw [hX]; exact h4.1.1.2, rfl, fun q => ?_⟩
    have hnd : (O.map (·.i)).Nodup := by rw [hR.out]; exact (sortI_nodup h.nd).filter _
    have e : (O.map (·.i))[m]? = some d.i := by rw [List.getElem?_map, hd]; rfl
    exact notin_take e hnd (by rw [← List.map_take]; exact q)
theorem DueR.olen (hR : DueR rep now L M O) : O.length ≤ L.length := by
  have h1 := congrArg List.length hR.out
  rw [List.length_map] at h1
  have h2 := List.length_filter_le (dueB now L) (sortI L)
  have h3 := sortI_len L
  omega
end
end Go.Proofs.Ytoiplcicbjimlaa
namespace Go.Proofs.Ytoiplcicbjimlaa
open Go.RowKit
/-- lists of truths and what they follow -/
def Fol (n : Nat) (A : List Bool) (f : Int → Bool) : Prop := A.length = n ∧ ∀ j : Nat, j < n → A.getD j false = f (j : Int)
section
variable {n : Nat} {A : List Bool} {f g : Int → Bool} {k : Int} {b : Bool}
theorem Fol.at (h : Fol n A f) (h0 : 0 ≤ k) (h1 : k < (n : Int)) : A.getD k.toNat false = f k := by
  rw [h.2 k.toNat (by omega), Int.toNat_of_nonneg h0]
theorem Fol.set (h : Fol n A f) (h0 : 0 ≤ k) (h1 : k < (n : Int)) (hb : g k = b) (hg : ∀ j, j ≠ k → g j = f j) : Fol n (A.set k.toNat b) g := by
  refine ⟨by rw [List.length_set]; exact h.1, fun j hj => ?_⟩
  rw [getTr_set (by rw [h.1]; omega)]
  split
  · rename_i e; rw [e, Int.toNat_of_nonneg h0, hb]
  · rename_i e; rw [h.2 j hj, hg _ (by omega)]
theorem Fol.imp (h : Fol n A f) (hg : ∀ j, g j = f j) : Fol n A g := ⟨h.1, fun j hj => by rw [h.2 j hj, hg]⟩
end
section
variable {n : Nat} {rep now : Int} {L M : List (Int × PlX)} {A D T : List Bool} {i : Int} {O : List DenyD}
structure EiI (n : Nat) (L : List (Int × PlX)) (A D T : List Bool) : Prop where
  a : Fol n A (ackB L)
  d : Fol n D (denB L)
  t : Fol n T (fun j => (lookM L j).isSome)
theorem EiI.start6 : EiI 6 [] [false, false, false, false, false, false] [false, false, false, false, false, false] [false, false, false, false, false, false] := by
  have h : Fol 6 [false, false, false, false, false, false] (fun _ => false) := ⟨rfl, fun j hj => by rcases j with _ | _ | _ | _ | _ | _ | j <;> first | rfl | omega⟩
  exact ⟨h.imp fun _ => rfl, h.imp fun _ => rfl, h.imp fun _ => rfl⟩
theorem EiI.place {c : Int × Int × Hash × Int} (h : EiI n L A D T) (hR : PlaceR L i c M) (h0 : 0 ≤ i) (h1 : i < (n : Int)) : EiI n M A D (T.set i.toNat true) := by
  obtain ⟨q1, q2, q3, q4⟩ := hR.look
  refine ⟨h.a.imp fun j => ?_, h.d.imp fun j => ?_, h.t.set h0 h1 q2 fun j hj => by rw [q1 j hj]⟩
  · by_cases e : j = i
    · rw [e]; exact q3
    · unfold ackB; rw [q1 j e]
  · by_cases e : j = i
    · rw [e]; exact q4
    · unfold denB; rw [q1 j e]
theorem EiI.open {p : List UInt8} {code : Int} (h : EiI n L A D T) (hR : OpenR L i p code M) (h0 : 0 ≤ i) (h1 : i < (n : Int)) {b : Bool} (hb : b = (A.getD i.toNat false || decide (code = 0))) : EiI n M (A.set i.toNat b) D T := by
  obtain ⟨q1, q2, q3, q4, q5⟩ := hR.look
  refine ⟨h.a.set h0 h1 (by rw [q5, hb, h.a.at h0 h1]) fun j hj => by unfold ackB; rw [q1 j hj], h.d.imp fun j => ?_, h.t.imp fun j => ?_⟩
  · by_cases e : j = i
    · rw [e]; exact q3
    · unfold denB; rw [q1 j e]
  · by_cases e : j = i
    · rw [e]; exact q2
    · show (lookM M j).isSome = (lookM L j).isSome; rw [q1 j e]
theorem EiI.code {p : List UInt8} {code : Int} (h : EiI n L A D T) (hR : OpenR L i p code M) (h0 : 0 ≤ i) (h1 : i < (n : Int)) : decide (code = 0) = (T.getD i.toNat false && !D.getD i.toNat false) := by
  rw [hR.look.2.2.2.1, h.t.at h0 h1, h.d.at h0 h1]
/-- the loop over what Due handed back -/
structure DuI (n : Nat) (L M : List (Int × PlX)) (O : List DenyD) (A D T : List Bool) (m : Nat) : Prop where
  a : Fol n A (ackB L)
  d : Fol n D (fun j => denB L j || decide (j ∈ (O.take m).map (·.i)))
  t : Fol n T (fun j => (lookM L j).isSome)
theorem DuI.start (h : EiI n L A D T) : DuI n L M O A D T 0 := ⟨h.a, h.d.imp fun j => by simp, h.t⟩
theorem DuI.step {m : Nat} {d : DenyD} (h : DuI n L M O A D T m) (hd : O[m]? = some d) (h0 : 0 ≤ d.i) (h1 : d.i < (n : Int)) : DuI n L M O A (D.set d.i.toNat true) T (m + 1) := by
  have e : (O.take (m + 1)).map (·.i) = (O.take m).map (·.i) ++ [d.i] := by rw [List.take_add_one, hd]; simp
  refine ⟨h.a, h.d.set h0 h1 (by simp [e]) fun j hj => ?_, h.t⟩
  simp only [e, List.mem_append, List.mem_singleton, hj, or_false]
theorem DuI.fin (h : DuI n L M O A D T O.length) (hR : DueR rep now L M O) : EiI n M A D T :=
  ⟨h.a.imp hR.ack, h.d.imp fun j => by rw [hR.den, List.take_length], h.t.imp hR.is⟩
end
end Go.Proofs.Ytoiplcicbjimlaa
namespace Go.Proofs.Ytoiplcicbjimlaa
open Go.RowKit
section
variable {κ ν : Type} [DecidableEq κ] {s : κ}
theorem idx_cons (x s : κ) (l : List κ) : List.idxOf? s (x :: l) = if x = s then some 0 else (List.idxOf? s l).map (· + 1) := by
  simp [List.idxOf?_cons]
theorem delG_filter : ∀ {L : List (κ × ν)}, (L.map (·.1)).Nodup → delM L s = L.filter fun x => decide (x.1 ≠ s)
  | [], _ => rfl
  | x :: L, hn => by
    obtain ⟨h1, h2⟩ := List.nodup_cons.1 hn
    by_cases e : x.1 = s
    · subst e
      have e0 : delM (x :: L) x.1 = L := by unfold delM; simp [List.idxOf?_cons]
      rw [e0, List.filter_cons_of_neg (by simp)]
      refine (List.filter_eq_self.2 fun y hy => ?_).symm
      simp only [decide_eq_true_eq]
      intro e; exact h1 (List.mem_map.2 ⟨y, hy, e⟩)
    · rw [List.filter_cons_of_pos (by simpa using e), ← delG_filter h2]
      unfold delM
      simp only [List.map_cons, idx_cons, if_neg e]
      cases hq : List.idxOf? s (L.map (·.1)) <;> rfl
theorem look_delG {L : List (κ × ν)} (hn : (L.map (·.1)).Nodup) (j : κ) : lookM (delM L s) j = if j = s then none else lookM L j := by
  rw [delG_filter hn]
  unfold lookM
  rw [List.find?_filter]
  split
  · rename_i e
    subst e
    rw [Option.map_eq_none_iff, List.find?_eq_none]
    intro x _ h1
    obtain ⟨h2, h3⟩ := of_decide_eq_true h1
    exact (of_decide_eq_true h2) (eq_of_beq h3)
  · rename_i e
    congr 1
    refine congrFun (congrArg List.find? (funext fun x => ?_)) L
    by_cases h : x.1 = j
    · rw [h]; simp [e]
    · simp [h]
end
section
variable {n : Nat} {K rep now : Int} {L M : List (Int × PlX)} {T : List Bool} {i : Int} {O : List OpenD}
theorem PlI.del (h : PlI K rep L) : PlI K rep (delM L i) ∧ (delM L i).length ≤ L.length := by
  have e := delG_filter (s := i) h.nd
  refine ⟨⟨?_, fun x hx => h.rng x (mem_delG hx), fun j Y hY => ?_⟩, by rw [e]; exact List.length_filter_le _ _⟩
  · rw [e]
    exact (List.Sublist.map _ List.filter_sublist).nodup h.nd
  · rw [look_delG h.nd] at hY
    split at hY
    · cases hY
    · exact h.all j Y hY
theorem PlI.opens (h : PlI K rep L) (ho : O.map (·.i) = ((sortI L).filter (ackB L)).map (oiB L)) : O.map (·.i) = (sortI L).filter (ackB L) := by
  rw [ho]
  conv => rhs; rw [← List.map_id ((sortI L).filter (ackB L))]
  refine List.map_congr_left fun j hj => ?_
  have ha := (List.mem_filter.1 hj).2
  unfold ackB at ha
  unfold oiB
  cases hX : lookM L j with
  | none => rw [hX] at ha; cases ha
  | some X => rw [hX] at ha; exact ((h.all j X hX).2.2.2.2.1 ha).2
theorem PlI.openAt (h : PlI K rep L) (ho : O.map (·.i) = ((sortI L).filter (ackB L)).map (oiB L)) {m : Nat} {o : OpenD} (hm : O[m]? = some o) : (0 ≤ o.i ∧ o.i < K) ∧ (lookM L o.i).isSome = true ∧ ackB L o.i = true := by
  have h1 : o.i ∈ (sortI L).filter (ackB L) := by rw [← h.opens ho]; exact List.mem_map_of_mem (List.mem_of_getElem? hm)
  obtain ⟨h2, h3⟩ := List.mem_filter.1 h1
  rw [sortI_mem] at h2
  cases hX : lookM L o.i with
  | none => exact absurd h2 (look_noneG.1 hX)
  | some X => exact ⟨h.key hX, rfl, h3⟩
/-- the last one is below all that come -/
def RisI (O : List OpenD) (m : Nat) (last : Int) : Prop := ∀ (q : Nat) (o : OpenD), m ≤ q → O[q]? = some o → last < o.i
theorem PlI.risStart (h : PlI K rep L) (ho : O.map (·.i) = ((sortI L).filter (ackB L)).map (oiB L)) : RisI O 0 (-1) := fun q o _ hq => by
  have := (h.openAt ho hq).1.1
  omega
theorem PlI.risStep (h : PlI K rep L) (ho : O.map (·.i) = ((sortI L).filter (ackB L)).map (oiB L)) {m : Nat} {o : OpenD} (hm : O[m]? = some o) : RisI O (m + 1) o.i := fun q p hq hp => by
  have h1 : ((sortI L).filter (ackB L)).Pairwise (· < ·) := (sortI_lt h.nd).filter _
  rw [← h.opens ho, List.pairwise_iff_getElem] at h1
  obtain ⟨hm1, hm2⟩ := List.getElem?_eq_some_iff.1 hm
  obtain ⟨hq1, hq2⟩ := List.getElem?_eq_some_iff.1 hp
  have := h1 m q (by rw [List.length_map]; exact hm1) (by rw [List.length_map]; exact hq1) (by omega)
  rwa [List.getElem_map, List.getElem_map, hm2, hq2] at this
theorem PlI.olen (h : PlI K rep L) (ho : O.map (·.i) = ((sortI L).filter (ackB L)).map (oiB L)) : O.length ≤ L.length := by
  have h1 := congrArg List.length (h.opens ho)
  rw [List.length_map] at h1
  have h2 := List.length_filter_le (ackB L) (sortI L)
  have h3 := sortI_len L
  omega
theorem PlI.noTombs (h : PlI K rep L) {Z : List TombD} (hz : Z.map (·.i) = (sortI L).filter (manyB 3 L)) : Z.length = 0 := by
  have h1 : (sortI L).filter (manyB 3 L) = [] := by
    rw [List.filter_eq_nil_iff]
    intro j hj
    unfold manyB
    cases hX : lookM L j with
    | none => simp
    | some X =>
      rcases (h.all j X hX).2.2.2.2.2.2 with e | ⟨d, e⟩ <;> simp [e]
  rw [h1] at hz
  have := congrArg List.length hz
  simpa using this
theorem PlaceR.new {c : Int × Int × Hash × Int} (hR : PlaceR L i c M) (h0 : lookM L i = none) : ∃ X, coreX X = c ∧ X.p.acked = false ∧ X.p.denied = false ∧ X.D = [] ∧ lookM M i = some X ∧ M = putM L i X := by
  rcases hR with ⟨⟨X, hX⟩, _⟩ | ⟨_, X, h1, h2, h3, h4, h5, h6, rfl⟩
  · rw [h0] at hX; cases hX
  · exact ⟨X, h1, h2, h3, h4, look_put_same _ _ _, rfl⟩
theorem PlaceR.old {c : Int × Int × Hash × Int} {X : PlX} (hR : PlaceR L i c M) (h0 : lookM L i = some X) : M = L := by
  rcases hR with ⟨_, rfl⟩ | ⟨h, _⟩
  · rfl
  · rw [h0] at h; cases h
theorem OpenR.fresh {p : List UInt8} {code : Int} {X : PlX} (hR : OpenR L i p code M) (h0 : lookM L i = some X) (ha : X.p.acked = false) (hd : X.p.denied = false) : code = 0 ∧ ∃ X', X'.p.acked = true ∧ X'.p.denied = false ∧ coreX X' = coreX X ∧ X'.D = X.D ∧ lookM M i = some X' ∧ M.map (·.1) = L.map (·.1) := by
  rcases hR with ⟨h, _, _⟩ | ⟨Y, hY, ⟨h1, _, _⟩ | ⟨h1, h2, ⟨h3, _⟩ | ⟨h3, X', h4, h5, h6, h7, h8, h9, rfl⟩⟩⟩
  · rw [h0] at h; cases h
  · rw [h0] at hY; cases hY; rw [hd] at h1; cases h1
  · rw [h0] at hY; cases hY; rw [ha] at h3; cases h3
  · rw [h0] at hY; cases hY
    exact ⟨h2, X', h4, h5, h7, h8, look_put_same _ _ _, keys_putS h0⟩
theorem OpenR.denied {p : List UInt8} {code : Int} {X : PlX} (hR : OpenR L i p code M) (h0 : lookM L i = some X) (hd : X.p.denied = true) : code = 12 ∧ M = L := by
  rcases hR with ⟨h, _, _⟩ | ⟨Y, hY, ⟨_, h1, h2⟩ | ⟨h1, _⟩⟩
  · rw [h0] at h; cases h
  · exact ⟨h1, h2⟩
  · rw [h0] at hY; cases hY; rw [hd] at h1; cases h1
theorem sortI_one (hk : L.map (·.1) = [i]) : sortI L = [i] := by unfold sortI; rw [hk]; simp
theorem DueR.one {D : List DenyD} {X : PlX} (hR : DueR rep now L M D) (hk : L.map (·.1) = [i]) (h0 : lookM L i = some X) :
    D.map (·.i) = (if dueX now X = true then [i] else []) ∧ M.map (·.1) = [i] ∧ ∃ X', lookM M i = some X' ∧ DueX rep now i X X' := by
  obtain ⟨X', h1, h2⟩ := hR.done i X h0
  refine ⟨?_, hR.keys.trans hk, X', h1, h2⟩
  rw [hR.out, sortI_one hk]
  have : dueB now L i = dueX now X := by unfold dueB; rw [h0]; rfl
  cases hd : dueX now X <;> simp [this, hd]
theorem opens_one {X : PlX} (ho : O.map (·.i) = ((sortI L).filter (ackB L)).map (oiB L)) (hk : L.map (·.1) = [i]) (h0 : lookM L i = some X) : O.length = if X.p.acked = true then 1 else 0 := by
  have h1 := congrArg List.length ho
  rw [List.length_map, List.length_map, sortI_one hk] at h1
  have : ackB L i = X.p.acked := by unfold ackB; rw [h0]; rfl
  cases hd : X.p.acked <;> simp [this, hd] at h1 <;> simpa using h1
theorem ackB_at {X : PlX} (h0 : lookM L i = some X) : ackB L i = X.p.acked := by unfold ackB; rw [h0]; rfl
theorem denB_at {X : PlX} (h0 : lookM L i = some X) : denB L i = X.p.denied := by unfold denB; rw [h0]; rfl
theorem nodup_one (hk : L.map (·.1) = [i]) : (L.map (·.1)).Nodup := by rw [hk]; simp
theorem gone_one (hk : L.map (·.1) = [i]) : lookM (delM L i) i = none := by rw [look_delG (nodup_one hk), if_pos rfl]
theorem gone_two (hk : L.map (·.1) = [i]) : lookM (delM (delM L i) i) i = none := by
  rw [look_delG, if_pos rfl]
  rw [delG_filter (nodup_one hk)]
  exact (List.Sublist.map _ List.filter_sublist).nodup (nodup_one hk)
structure RiI (n : Nat) (L : List (Int × PlX)) (T : List Bool) : Prop where
  t : Fol n T (fun j => (lookM L j).isSome)
theorem RiI.start7 : RiI 7 [] [false, false, false, false, false, false, false] :=
  ⟨rfl, fun j hj => by rcases j with _ | _ | _ | _ | _ | _ | _ | j <;> first | rfl | omega⟩
theorem RiI.place {c : Int × Int × Hash × Int} (h : RiI n L T) (hR : PlaceR L i c M) (h0 : 0 ≤ i) (h1 : i < (n : Int)) : RiI n M (T.set i.toNat true) := by
  obtain ⟨q1, q2, q3, q4⟩ := hR.look
  exact ⟨h.t.set h0 h1 q2 fun j hj => by rw [q1 j hj]⟩
theorem RiI.open {p : List UInt8} {code : Int} (h : RiI n L T) (hR : OpenR L i p code M) : RiI n M T := by
  obtain ⟨q1, q2, q3, q4, q5⟩ := hR.look
  refine ⟨h.t.imp fun j => ?_⟩
  by_cases e : j = i
  · rw [e]; exact q2
  · show (lookM M j).isSome = (lookM L j).isSome; rw [q1 j e]
theorem RiI.due {D : List DenyD} (h : RiI n L T) (hR : DueR rep now L M D) : RiI n M T := ⟨h.t.imp hR.is⟩
theorem RiI.del (h : RiI n L T) (hn : (L.map (·.1)).Nodup) (h0 : 0 ≤ i) (h1 : i < (n : Int)) : RiI n (delM L i) (T.set i.toNat false) :=
  ⟨h.t.set h0 h1 (by rw [look_delG hn, if_pos rfl]; rfl) fun j hj => by rw [look_delG hn, if_neg hj]⟩
end
end Go.Proofs.Ytoiplcicbjimlaa
namespace Go.Proofs.Ytoiplcicbjimlaa
open Go.RowKit
theorem signed_right (L : List Signed) (p : Int) (s : List UInt8) : rightB (signL L ⟨p, s⟩) p (markOf (signL L ⟨p, s⟩) ⟨p, s⟩) s = true := by
  have h : (⟨p, s⟩ : Signed) ∈ signL L ⟨p, s⟩ := by
    unfold signL; split
    · rename_i q; simpa using q
    · simp
  have := markOf_pos h
  unfold rightB
  simp; omega
/-- who has denied the one place that there is -/
structure TmI (N : Nat) (X : PlX) (A : List Bool) : Prop where
  len : A.length = N
  nd : (X.D.map (·.1)).Nodup
  rng : ∀ d ∈ X.D, 0 ≤ d.1 ∧ d.1 < (N : Int)
  is : ∀ r : Nat, r < N → A.getD r false = (lookM X.D (r : Int)).isSome
  cnt : X.D.length = A.count true
section
variable {N Q : Nat} {A : List Bool} {X : PlX} {L M : List (Int × PlX)} {d : DenyD} {O : List DenyD} {Z : List TombD} {i : Int}
theorem TmI.start (N : Nat) (h : X.D = []) : TmI N X (List.replicate N false) := by
  refine ⟨by simp, by rw [h]; exact List.nodup_nil, by rw [h]; simp, fun r hr => ?_, by rw [h]; simp [List.count_replicate]⟩
  rw [h, List.getD_eq_getElem?_getD, List.getElem?_replicate, if_pos hr]; rfl
theorem count_set_true : ∀ (A : List Bool) (r : Nat), r < A.length → A.getD r false = false → (A.set r true).count true = A.count true + 1
  | [], r, h, _ => by simp at h
  | b :: A, 0, _, h => by
    have : b = false := by simpa using h
    subst this
    simp
  | b :: A, r + 1, h, h2 => by
    have ih := count_set_true A r (by simpa using h) (by simpa using h2)
    simp only [List.set_cons_succ, List.count_cons, ih]; omega
theorem set_true_id {A : List Bool} {r : Nat} (h : A.getD r false = true) : A.set r true = A := by
  refine List.ext_getElem (by simp) fun j h1 h2 => ?_
  rw [List.getElem_set]
  split
  · rename_i e; subst e
    rw [List.getD_eq_getElem?_getD, List.getElem?_eq_getElem h2] at h
    simpa using h.symm
  · rfl
theorem TmI.put (h : TmI N X A) {r : Nat} (hr : r < N) {X' : PlX} (hX : X'.D = if (lookM X.D (r : Int)).isSome = true then X.D else putM X.D (r : Int) d) : TmI N X' (A.set r true) := by
  cases hq : (lookM X.D (r : Int)).isSome with
  | true =>
    rw [hq, if_pos rfl] at hX
    rw [set_true_id (by rw [h.is r hr, hq])]
    exact ⟨h.len, hX ▸ h.nd, hX ▸ h.rng, fun q hqq => by rw [hX]; exact h.is q hqq, by rw [hX]; exact h.cnt⟩
  | false =>
    rw [hq, if_neg (by decide)] at hX
    have hno : (r : Int) ∉ X.D.map (·.1) := by
      rw [← look_noneG]
      cases hz : lookM X.D (r : Int) with
      | none => rfl
      | some v => rw [hz] at hq; cases hq
    have hA : A.getD r false = false := by rw [h.is r hr, hq]
    have hlen : r < A.length := by rw [h.len]; exact hr
    have hkeys : X'.D.map (·.1) = X.D.map (·.1) ++ [(r : Int)] := by rw [hX, keys_putG, if_neg hno]
    refine ⟨by rw [List.length_set]; exact h.len, ?_, fun e he => ?_, fun q hqq => ?_, ?_⟩
    · rw [hkeys, List.nodup_append]
      exact ⟨h.nd, by simp, fun a ha b hb e => by rw [List.mem_singleton.1 hb] at e; exact hno (e ▸ ha)⟩
    · rw [hX] at he
      rcases mem_putG he with rfl | he
      · exact ⟨by omega, by simp only; omega⟩
      · exact h.rng e he
    · rw [getTr_set hlen, hX, look_putG]
      split
      · rename_i e; subst e; rw [if_pos rfl]; rfl
      · rename_i e; rw [if_neg (by omega)]; exact h.is q hqq
    · have h1 := congrArg List.length hkeys
      rw [List.length_map, List.length_append, List.length_map, h.cnt] at h1
      rw [h1, count_set_true A r hlen hA]; rfl
theorem TmI.count (h : TmI N X A) (hR : CountR L d X M) (h0 : 0 ≤ d.r) (h1 : d.r < (N : Int)) (hi : d.i = i) (hk : L.map (·.1) = [i]) : ∃ X', lookM M i = some X' ∧ M.map (·.1) = [i] ∧ TmI N X' (A.set d.r.toNat true) ∧ 0 ≤ d.r := by
  obtain ⟨X', _, _, _, _, _, hD, hl, hkk⟩ := hR
  refine ⟨X', by rw [hl, if_pos hi.symm], hkk.trans hk, ?_, h0⟩
  exact h.put (r := d.r.toNat) (d := d) (by omega) (by rw [Int.toNat_of_nonneg h0]; exact hD)
theorem TmI.at (h : TmI N X A) {r : Int} (h0 : 0 ≤ r) (h1 : r < (N : Int)) : A.getD r.toNat false = (lookM X.D r).isSome := by
  rw [h.is r.toNat (by omega), Int.toNat_of_nonneg h0]
theorem TmI.own (h : TmI N X A) {X' : PlX} (hN : 0 < N) (hD : X'.D = if (lookM X.D 0).isSome = true then X.D else putM X.D 0 d) : TmI N X' (A.set 0 true) := h.put (r := 0) hN hD
theorem TmI.keep (h : TmI N X A) {X' : PlX} (hD : X'.D = X.D) : TmI N X' A := ⟨h.len, hD ▸ h.nd, hD ▸ h.rng, hD ▸ h.is, hD ▸ h.cnt⟩
theorem TmI.dlen (h : TmI N X A) : X.D.length ≤ N := by rw [h.cnt, ← h.len]; exact List.count_le_length
theorem one_all {P : PlX → Prop} (hk : L.map (·.1) = [i]) (h0 : lookM L i = some X) (hP : P X) : ∀ x ∈ L, P x.2 := fun x hx => by
  have h1 : x.1 ∈ L.map (·.1) := List.mem_map_of_mem hx
  rw [hk, List.mem_singleton] at h1
  have h2 := look_memG (nodup_one hk) (a := x.1) (x := x.2) hx
  rw [h1, h0] at h2
  cases h2; exact hP
theorem one_len (hk : L.map (·.1) = [i]) : L.length = 1 := by simpa using congrArg List.length hk
theorem one_i64 (hk : L.map (·.1) = [i]) (hi : I64 i) : ∀ x ∈ L, I64 x.1 := fun x hx => by
  have h1 : x.1 ∈ L.map (·.1) := List.mem_map_of_mem hx
  rw [hk, List.mem_singleton] at h1
  rw [h1]; exact hi
theorem TmI.dens (h : TmI N X A) (hN : N ≤ 1000) (hk : L.map (·.1) = [i]) (h0 : lookM L i = some X) : ∀ x ∈ L, x.2.D.length ≤ 1000 ∧ ∀ d ∈ x.2.D, I64 d.1 :=
  one_all (P := fun X => X.D.length ≤ 1000 ∧ ∀ d ∈ X.D, I64 d.1) hk h0 ⟨by have := h.dlen; omega, fun d hd => by have := h.rng d hd; unfold I64; omega⟩
theorem TmI.tombs (h : TmI N X A) (hk : L.map (·.1) = [i]) (h0 : lookM L i = some X) (hz : Z.map (·.i) = (sortI L).filter (manyB Q L)) : Z.map (·.i) = if Q ≤ A.count true then [i] else [] := by
  rw [hz, sortI_one hk]
  have : manyB Q L i = decide (Q ≤ A.count true) := by unfold manyB; rw [h0, ← h.cnt]; rfl
  by_cases hq : Q ≤ A.count true <;> simp [this, hq]
theorem count_take (A : List Bool) {j : Nat} (h : j < A.length) : (A.take (j + 1)).count true = (A.take j).count true + if A.getD j false = true then 1 else 0 := by
  rw [List.take_add_one, List.getElem?_eq_getElem h, List.count_append, List.getD_eq_getElem?_getD, List.getElem?_eq_getElem h]
  simp only [Option.toList_some, Option.getD_some, List.count_singleton]
  cases A[j] <;> simp
end
end Go.Proofs.Ytoiplcicbjimlaa
