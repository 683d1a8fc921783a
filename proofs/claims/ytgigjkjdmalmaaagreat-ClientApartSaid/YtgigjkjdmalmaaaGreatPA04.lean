/- WHAT IS PROVED: contracts and plain laws of Iter, Sep, Lists. Conditions: stated with each. -/
import Derived.Maps.RangeRun
import Derived.Test.YtgigjkjdmalmaaaGreatPA02
import Derived.Test.YtgigjkjdmalmaaaGreatPA03
set_option maxHeartbeats 4000000
set_option maxRecDepth 100000
namespace Go.Proofs.YtgigjkjdmalmaaaGreat
open Go.RowKit
open Go.ChangeMaps (setBlock)
theorem Z3h {w : World} {r : Nat} {o' o : Obj} (h : w.heap[r]? = some o') : (setBlock w r o).heap[r]? = some o := by
 have := Z0Z h
 simp [setBlock, this]
theorem Z2N {w : World} {r k : Nat} {o : Obj} (h : r ≠ k) : (setBlock w r o).heap[k]? = w.heap[k]? := by
 simp [setBlock, h]
section
variable {κ ν : Type} {encK : κ → Value} {encV : ν → Value}
def IterAt (w : World) (r b : Nat) (encK : κ → Value) (encV : ν → Value) (l seen : List (κ × ν)) : Prop :=
 r ≠ b ∧ ∃ (es : Array MapEntry) (clock c0 : Nat) (ps sp rp : List (MapEntry × (κ × ν))), w.heap[b]? = some (.map es clock) ∧ w.heap[r]? = some (.mapIter (some b) clock (sp.map (·.1.born)).toArray c0) ∧ clock ≤ c0 ∧
  ps.map (·.1) = es.toList ∧ ps.map (·.2) = l ∧ (∀ p ∈ ps, p.1.key = encK p.2.1 ∧ p.1.val = encV p.2.2) ∧ (l.map (·.1)).Nodup ∧
  (es.toList.map (·.born)).Pairwise (· < ·) ∧ (∀ e ∈ es.toList, e.born < clock) ∧ ps.Perm (sp ++ rp) ∧ sp.map (·.2) = seen
def IterAtE (w : World) (r b : Nat) (encK : κ → Value) (encV : ν → Value) (l seen : List (κ × ν)) : Prop :=
 r ≠ b ∧ ∃ (es : Array MapEntry) (clock : Nat) (ps sp rp : List (MapEntry × (κ × ν))), w.heap[b]? = some (.map es clock) ∧ w.heap[r]? = some (.mapIter (some b) clock (sp.map (·.1.born)).toArray clock) ∧
  ps.map (·.1) = es.toList ∧ ps.map (·.2) = l ∧ (∀ p ∈ ps, p.1.key = encK p.2.1 ∧ p.1.val = encV p.2.2) ∧ (l.map (·.1)).Nodup ∧
  (es.toList.map (·.born)).Pairwise (· < ·) ∧ (∀ e ∈ es.toList, e.born < clock) ∧ ps.Perm (sp ++ rp) ∧ sp.map (·.2) = seen
theorem IterAtE.it {w : World} {r b : Nat} {l seen : List (κ × ν)} (h : IterAtE w r b encK encV l seen) : IterAt w r b encK encV l seen := by
 obtain ⟨hne, es, clock, ps, sp, rp, h1, h2, rest⟩ := h
 exact ⟨hne, es, clock, clock, ps, sp, rp, h1, h2, Nat.le_refl _, rest⟩
theorem IterAt.perm {w : World} {r b : Nat} {l seen : List (κ × ν)} (h : IterAt w r b encK encV l seen) : ∃ rest, l.Perm (seen ++ rest) := by
 obtain ⟨_, es, clock, c0, ps, sp, rp, _, _, _, _, h2, _, _, _, _, hp, rfl⟩ := h
 exact ⟨rp.map (·.2), by rw [← h2, ← List.map_append]; exact hp.map _⟩
theorem MapAt.pairs {w : World} {b : Nat} {l : List (κ × ν)} (h : MapAt w b encK encV l) : ∃ (es : Array MapEntry) (clock : Nat) (ps : List (MapEntry × (κ × ν))), w.heap[b]? = some (.map es clock) ∧ ps.map (·.1) = es.toList ∧ ps.map (·.2) = l ∧ (∀ p ∈ ps, p.1.key = encK p.2.1 ∧ p.1.val = encV p.2.2) ∧ (l.map (·.1)).Nodup ∧
  (es.toList.map (·.born)).Pairwise (· < ·) ∧ (∀ e ∈ es.toList, e.born < clock) := by
 obtain ⟨es, clock, hb, he, hn, hp, hc⟩ := h
 have hl : es.toList.length = l.length := by have := congrArg List.length he; simpa using this
 refine ⟨es, clock, es.toList.zip l, hb, List.map_fst_zip (by omega), List.map_snd_zip (by omega), ?_, hn, hp, hc⟩
 intro p hp
 obtain ⟨i, hi, rfl⟩ := List.mem_iff_getElem.1 hp
 simp only [List.length_zip] at hi
 have := congrArg (fun m => m[i]?) he
 simp only [List.getElem?_map, List.getElem?_eq_getElem (show i < es.toList.length by omega), List.getElem?_eq_getElem (show i < l.length by omega), Option.map_some, Option.some.injEq, Prod.mk.injEq] at this
 simpa using this
theorem IterAt.map {w : World} {r b : Nat} {l seen : List (κ × ν)} (h : IterAt w r b encK encV l seen) : MapAt w b encK encV l := by
 obtain ⟨_, es, clock, c0, ps, sp, rp, h1, _, _, h3, h4, h5, h6, h7, h8, _⟩ := h
 refine ⟨es, clock, h1, ?_, h6, h7, h8⟩
 rw [← h3, ← h4, List.map_map, List.map_map]
 refine List.map_congr_left fun p hp => ?_
 obtain ⟨ha, hb⟩ := h5 p hp
 simp [ha, hb]
section
variable {P : Program} {n : Nat} {f : Nat → Value} {w0 w w' : World} {G : List Ck} {dst : Option Tmp} {ty : TypeId} {pos : String} {aft : Array Edge} {gd : Option (Nat × Bool)} {K : Act → World → Prop} {Q : Exit → Act → World → Prop} {b r : Nat} {l seen : List (κ × ν)}
end
def IterR (W w : World) (r b : Nat) (encK : κ → Value) (encV : ν → Value) (l seen : List (κ × ν)) : Prop :=
 r ≠ b ∧ ∃ (es : Array MapEntry) (clock : Nat) (ps sp rp : List (MapEntry × (κ × ν))), W.heap[b]? = some (.map es clock) ∧ w.heap[r]? = some (.mapIter (some b) clock (sp.map (·.1.born)).toArray clock) ∧
  ps.map (·.1) = es.toList ∧ ps.map (·.2) = l ∧ (∀ p ∈ ps, p.1.key = encK p.2.1 ∧ p.1.val = encV p.2.2) ∧ (l.map (·.1)).Nodup ∧
  (es.toList.map (·.born)).Pairwise (· < ·) ∧ (∀ e ∈ es.toList, e.born < clock) ∧ ps.Perm (sp ++ rp) ∧ sp.map (·.2) = seen
def Z1Y (W : World) (r b : Nat) (encK : κ → Value) (encV : ν → Value) (l seen : List (κ × ν)) : Ck where
 fp k := k = r
 ok w := IterR W w r b encK encV l seen
 stay h hb := by
  obtain ⟨hne, es, clock, ps, sp, rp, h1, h2, rest⟩ := h
  exact ⟨hne, es, clock, ps, sp, rp, h1, (hb r rfl).trans h2, rest⟩
 lt h k hk := by
  obtain ⟨hne, es, clock, ps, sp, rp, h1, h2, rest⟩ := h
  exact hk ▸ Z0Z h2
theorem Sat.ro {w0 w : World} {G : List Ck} (H : Sat w0 G w) {W : World} {D : Nat → Prop} (i : Nat) (hi : G[i]? = some (Zb W D)) {b : Nat} (hb : b < W.heap.size) (hD : ¬ D b) : w.heap[b]? = W.heap[b]? := H.at i hi b hb hD
theorem Sat.roMap {w0 w : World} {G : List Ck} (H : Sat w0 G w) {W : World} {D : Nat → Prop} (i : Nat) (hi : G[i]? = some (Zb W D)) {b : Nat} {l : List (κ × ν)} (hm : MapAt W b encK encV l) (hD : ¬ D b) : MapAt w b encK encV l := hm.stay (H.ro i hi hm.lt hD)
theorem Sat.roCells {w0 w : World} {G : List Ck} (H : Sat w0 G w) {W : World} {D : Nat → Prop} (i : Nat) (hi : G[i]? = some (Zb W D)) {b : Nat} {o : Obj} (hm : W.heap[b]? = some o) (hD : ¬ D b) : w.heap[b]? = some o := (H.ro i hi (Z0Z hm) hD).trans hm
theorem Sat.roCell {w0 w : World} {G : List Ck} (H : Sat w0 G w) {W : World} {D : Nat → Prop} (i : Nat) (hi : G[i]? = some (Zb W D)) {b o : Nat} {T : TypeId} {cs : List Value} {v : Value} (hm : W.heap[b]? = some (.cells ⟨cs⟩ T (0, 0))) (hD : ¬ D b) (hv : cs[o]? = some v) : w.cell? ⟨b, o, none⟩ = some v := by
 rw [Z0B (H.roCells i hi hm hD) o]; simpa using hv
section
variable {P : Program} {n : Nat} {f : Nat → Value} {w0 w w' W : World} {D : Nat → Prop} {G : List Ck} {dst : Option Tmp} {ty : TypeId} {pos : String} {aft : Array Edge} {gd : Option (Nat × Bool)} {K : Act → World → Prop} {Q : Exit → Act → World → Prop} {b r : Nat} {l seen : List (κ × ν)}
theorem Z4i {T kt et : TypeId} {x : Operand} {d : Nat} (hd : dst = some d) (H : Sat w0 G w) (j : Nat) (hj : G[j]? = some (Zb W D)) (hm : MapAt W b encK encV l) (hD : ¬ D b) (hT : P.underlying T = some (.map kt et)) (hx : ev n f x = .map (some b))
  (k : ∀ r w', Sat w0 (G ++ [Z1Y W r b encK encV l []]) w' → K (fr n (upd f d (.pointer (some ⟨r, 0, none⟩)))) w') : WO P ⟨dst, .range T x, ty, pos, aft, gd⟩ K Q n f w := by
 obtain ⟨es, clock, ps, hW, h1, h2, h3, h4, h5, h6⟩ := hm.pairs
 have hb := H.roCells j hj hW hD
 have hr : (execOp (ev n f) ⟨dst, .range T x, ty, pos, aft, gd⟩).run P w = .ok (.value (.pointer (some ⟨w.heap.size, 0, none⟩))) (w.alloc (.mapIter (some b) clock #[] clock)) := by
  simp only [execOp, hx]
  simp [run_range_map w T kt et b es clock hT hb, Result.andThen]
 refine Z24 hd hr (k _ _ ?_)
 have hlt := Z0Z hb
 exact H.add ⟨rfl, rfl, rfl, by simp⟩ (fun k hk => Below.heap_alloc w _ k hk) ⟨by omega, es, clock, ps, [], ps, hW, Z0K w _, h1, h2, h3, h4, h5, h6, by simp, rfl⟩ (fun k hk => Nat.le_of_eq hk.symm)
theorem Z4T {x : Operand} {d : Nat} (hd : dst = some d) (H : Sat w0 G w) (i : Nat) (hi : G[i]? = some (Z1Y W r b encK encV l seen)) (j : Nat) (hj : G[j]? = some (Zb W D)) (hD : ¬ D b) (hx : ev n f x = .pointer (some ⟨r, 0, none⟩))
  (k0 : l.Perm seen → K (fr n (upd f d (.tuple #[.bool false]))) w)
  (k1 : ∀ (y : κ × ν) (rest : List (κ × ν)) w', l.Perm ((seen ++ [y]) ++ rest) → Sat w0 (G.set i (Z1Y W r b encK encV l (seen ++ [y]))) w' → K (fr n (upd f d (.tuple #[.bool true, encK y.1, encV y.2]))) w') : WO P ⟨dst, .next x false, ty, pos, aft, gd⟩ K Q n f w := by
 obtain ⟨hne, es, clock, ps, sp, rp, hW, h2, h3, h4, h5, h6, h7, h8, hp, rfl⟩ := H.at i hi
 have h1 := H.roCells j hj hW hD
 have hbn : (es.toList.map (·.born)).Nodup := List.Pairwise.imp (fun h => Nat.ne_of_lt h) h7
 have hbn2 : ((sp ++ rp).map (·.1.born)).Nodup := by
  have : (ps.map (·.1.born)).Nodup := by
   have e : ps.map (·.1.born) = es.toList.map (·.born) := by rw [← h3, List.map_map]; rfl
   rw [e]; exact hbn
  exact (hp.map _).nodup_iff.1 this
 rcases run_next_at (P := P) w ty r b clock clock (sp.map (·.1.born)).toArray es clock h2 h1 h8 (Nat.le_refl _) with ⟨h0, hr⟩ | ⟨e, he, w1, hw1, hr⟩
 ·have hrp : rp = [] := by
   rcases rp with _ | ⟨p, rp⟩
   ·rfl
   ·exfalso
    have hpm : p ∈ ps := hp.symm.subset (by simp)
    have hem : p.1 ∈ es.toList := by rw [← h3]; exact List.mem_map_of_mem hpm
    have hns : p.1.born ∉ sp.map (·.1.born) := by
     rw [List.map_append, List.nodup_append] at hbn2
     intro hx
     exact hbn2.2.2 _ hx p.1.born (by simp) rfl
    have : p.1 ∈ (leftOf es (sp.map (·.1.born)).toArray).toList := by
     simp only [leftOf, Array.toList_filter, List.mem_filter]
     refine ⟨hem, ?_⟩
     simpa using fun a c hac => fun e => hns (List.mem_map.2 ⟨(a, c), hac, e⟩)
    have h0' : (leftOf es (sp.map (·.1.born)).toArray).toList = [] := by simpa using h0
    rw [h0'] at this; cases this
  subst hrp
  have hr' : (execOp (ev n f) ⟨dst, .next x false, ty, pos, aft, gd⟩).run P w = .ok (.value (.tuple #[.bool false])) w := by
   simp only [execOp, hx]
   simp [hr, Result.andThen]
  refine Z24 hd hr' (k0 ?_)
  rw [← h4]
  simpa using hp.map (·.2)
 ·have hr' : (execOp (ev n f) ⟨dst, .next x false, ty, pos, aft, gd⟩).run P w = .ok (.value (.tuple #[.bool true, e.key, e.val])) (setBlock w1 r (.mapIter (some b) clock ((sp.map (·.1.born)).toArray.push e.born) clock)) := by
   simp only [execOp, hx]
   simp [hr, Result.andThen]
  simp only [leftOf, Array.toList_filter, List.mem_filter] at he
  obtain ⟨hem, hns⟩ := he
  rw [← h3] at hem
  obtain ⟨p, hpm, rfl⟩ := List.mem_map.1 hem
  have hpr : p ∈ rp := by
   rcases List.mem_append.1 (hp.subset hpm) with h | h
   ·exfalso
    simp only [List.contains_toArray, Bool.not_eq_true', List.contains_eq_mem, decide_eq_false_iff_not] at hns
    exact hns (List.mem_map.2 ⟨p, h, rfl⟩)
   ·exact h
  obtain ⟨s, t, rfl⟩ := List.append_of_mem hpr
  have hp2 : ps.Perm ((sp ++ [p]) ++ (s ++ t)) := by
   refine hp.trans ?_
   rw [List.append_assoc]
   exact List.Perm.append_left _ (List.perm_middle)
  obtain ⟨ek, evv⟩ := h5 p hpm
  rw [ek, evv] at hr'
  have hw1h : w1.heap = w.heap := by rcases hw1 with rfl | rfl <;> rfl
  have hr1 : w1.heap[r]? = some (.mapIter (some b) clock (sp.map (·.1.born)).toArray clock) := by rw [hw1h]; exact h2
  refine Z24 hd hr' (k1 p.2 ((s ++ t).map (·.2)) _ ?_ ?_)
  ·rw [← h4]
   simpa using hp2.map (·.2)
  ·refine H.set i hi ?_ ?_ ?_ (fun k hk => .inl hk)
   ·rcases hw1 with rfl | rfl <;> exact ⟨rfl, rfl, rfl, by simp [setBlock]⟩
   ·intro k _ hk
    rw [Z2N (fun e => hk e.symm), hw1h]
   ·refine ⟨hne, es, clock, ps, sp ++ [p], s ++ t, hW, ?_, h3, h4, h5, h6, h7, h8, hp2, by simp⟩
    rw [Z3h hr1]
    simp
theorem Z5H {x : Operand} {y : κ × ν} (h : IterR W w r b encK encV l (seen ++ [y])) (hWw : w.heap[b]? = W.heap[b]?) (hx : ev n f x = .pointer (some ⟨r, 0, none⟩)) :
  (execOp (ev n f) ⟨dst, .entry x, ty, pos, aft, gd⟩).run P w = .ok (.value (.tuple #[encK y.1, encV y.2])) w := by
 obtain ⟨hne, es, clock, ps, sp, rp, hW, h2, h3, h4, h5, h6, h7, h8, hp, hs⟩ := h
 have h1 := hWw.trans hW
 have hbn : (es.toList.map (·.born)).Nodup := List.Pairwise.imp (fun h => Nat.ne_of_lt h) h7
 obtain ⟨sp', p, rfl⟩ : ∃ sp' p, sp = sp' ++ [p] := by
  rcases List.eq_nil_or_concat sp with rfl | ⟨a, c, rfl⟩
  ·simp at hs
  ·exact ⟨a, c, by simp⟩
 simp only [List.map_append, List.map_cons, List.map_nil] at hs
 have hpy : p.2 = y := by have := List.append_inj_right' hs rfl; simpa using this
 have hpm : p ∈ ps := hp.symm.subset (by simp)
 have hem : p.1 ∈ es.toList := by rw [← h3]; exact List.mem_map_of_mem hpm
 obtain ⟨ek, evv⟩ := h5 p hpm
 have h2' : w.heap[r]? = some (.mapIter (some b) clock ((sp'.map (·.1.born)).toArray.push p.1.born) clock) := by
  rw [h2]; simp
 have := run_entry_at (P := P) w r b clock _ es clock p.1 h2' h1 hem hbn
 rw [ek, evv, hpy] at this
 simp only [execOp, hx]
 simp [this, Result.andThen]
theorem Sat.entryR (H : Sat w0 G w) {x : Operand} {y : κ × ν} (i : Nat) (hi : G[i]? = some (Z1Y W r b encK encV l (seen ++ [y]))) (j : Nat) (hj : G[j]? = some (Zb W D)) (hD : ¬ D b) (hx : ev n f x = .pointer (some ⟨r, 0, none⟩)) :
  (execOp (ev n f) ⟨dst, .entry x, ty, pos, aft, gd⟩).run P w = .ok (.value (.tuple #[encK y.1, encV y.2])) w := by
 have h := H.at i hi
 obtain ⟨hne, es, clock, ps, sp, rp, hW, _⟩ := id h
 exact Z5H h (H.ro j hj (Z0Z hW) hD) hx
end
end
end Go.Proofs.YtgigjkjdmalmaaaGreat
namespace Go.Proofs.YtgigjkjdmalmaaaGreat
open Go.RowKit
def ZF (L : List Ck) : Ck where
 fp b := ∃ A ∈ L, A.fp b
 ok w := (∀ A ∈ L, A.ok w) ∧ L.Pairwise (fun (A B : Ck) => ∀ b : Nat, A.fp b → ¬ B.fp b)
 stay h hb := ⟨fun A hA => A.stay (h.1 A hA) fun b hfp => hb b ⟨A, hA, hfp⟩, h.2⟩
 lt h b hb := by obtain ⟨A, hA, hfp⟩ := hb; exact A.lt (h.1 A hA) b hfp
section
variable {w0 w w' : World} {G L : List Ck} {A : Ck}
theorem Sat.start (L : List Ck) (h : (ZF L).ok w) : Sat w (L ++ [Zb w (ZF L).fp]) w := by
 refine ⟨Ext.refl w, ?_, ?_⟩
 ·intro B hB
  rcases List.mem_append.1 hB with hB | hB
  ·exact h.1 B hB
  ·obtain rfl := List.mem_singleton.1 hB; exact fun b _ _ => rfl
 ·refine List.pairwise_append.2 ⟨h.2, by simp, ?_⟩
  intro B hB C hC b h1 h2
  obtain rfl := List.mem_singleton.1 hC
  exact h2.2 ⟨B, hB, h1⟩
theorem Sat.fin (H : Sat w0 G w) (is : List Nat) (hn : is.Pairwise (fun a b => Nat.beq a b = false)) (hL : (is.filterMap fun i => G[i]?) = L) : (ZF L).ok w := by
 have h := H.pick is hn
 rw [hL] at h
 exact ⟨h.all, h.dis⟩
theorem Sat.fresh {W : World} {D : Nat → Prop} (H : Sat w0 G w) (i : Nat) (hi : G[i]? = some (Zb W D)) (hD : ∀ b, ¬ D b) (j : Nat) (hj : G[j]? = some A) (hne : Nat.beq j i = false) : ∀ b, A.fp b → W.heap.size ≤ b := fun b hb => by
 have := H.apart j i hj hi hne b hb
 rcases Nat.lt_or_ge b W.heap.size with h | h
 ·exact absurd ⟨h, hD b⟩ this
 ·exact h
theorem Sat.freshS {W : World} {D : Nat → Prop} (H : Sat w0 G w) (i : Nat) (hi : G[i]? = some (Zb W D)) (hD : ∀ b, ¬ D b) (js : List Nat) (hj : (js.filterMap fun j => G[j]?) = L) (hne : js.all (fun j => !Nat.beq j i) = true) : ∀ b, (ZF L).fp b → W.heap.size ≤ b := fun b hb => by
 obtain ⟨A, hA, hfp⟩ := hb
 rw [← hj] at hA
 obtain ⟨j, hjm, hjA⟩ := List.mem_filterMap.1 hA
 have := List.all_eq_true.1 hne j hjm
 exact H.fresh i hi hD j hjA (by simpa using this) b hfp
theorem Sat.open (H : Sat w0 G w) (i : Nat) (hi : G[i]? = some (ZF L)) : Sat w0 (G.take i ++ L ++ G.drop (i + 1)) w := by
 have hok := H.at i hi
 have hd := List.pairwise_iff_getElem.1 H.dis
 obtain ⟨hil, hie⟩ := List.getElem?_eq_some_iff.1 hi
 have hG : G = G.take i ++ ZF L :: G.drop (i + 1) := by
  have := List.take_append_drop i G
  rw [List.drop_eq_getElem_cons hil, hie] at this
  exact this.symm
 have hdis := H.dis
 rw [hG] at hdis
 obtain ⟨p1, p2, p3⟩ := List.pairwise_append.1 hdis
 rw [List.pairwise_cons] at p2
 refine ⟨H.ext, ?_, ?_⟩
 ·intro B hB
  rw [List.append_assoc] at hB
  rcases List.mem_append.1 hB with hB | hB
  ·exact H.all B (List.mem_of_mem_take hB)
  ·rcases List.mem_append.1 hB with hB | hB
   ·exact hok.1 B hB
   ·exact H.all B (List.mem_of_mem_drop hB)
 ·rw [List.append_assoc]
  refine List.pairwise_append.2 ⟨p1, List.pairwise_append.2 ⟨hok.2, p2.2, ?_⟩, ?_⟩
  ·intro B hB C hC b h1 h2
   exact p2.1 C hC b ⟨B, hB, h1⟩ h2
  ·intro B hB C hC b h1 h2
   rcases List.mem_append.1 hC with hC | hC
   ·exact p3 B hB (ZF L) (by simp) b h1 ⟨C, hC, h2⟩
   ·exact p3 B hB C (by simp [hC]) b h1 h2
end
section
variable {P : Program} {Q : Exit → Act → World → Prop} {n : Nat} {f : Nat → Value} {w w' : World}
def Meet (n : Nat) (ws : List Nat) (F : Nat → Value) (M : (Nat → Value) → World → Prop) (Q : Exit → Act → World → Prop) : Exit → Act → World → Prop := Exit.then (fun a w => ∃ g, a = fr n (ovr ws g F) ∧ M (ovr ws g F) w) Q
theorem Z0x {x y : Code} (ws : List Nat) (M : (Nat → Value) → World → Prop) (h1 : WC P x (Meet n ws f M Q) n f w) (h2 : ∀ g w, M (ovr ws g f) w → WC P y Q n (ovr ws g f) w) : WC P (Code.seq x y) Q n f w :=
 ⟨wp_seq (Code.wp_mono (fun e a w q => by
  cases e with
  | normal => obtain ⟨g, rfl, hm⟩ := q; exact (h2 g w hm).h
  | _ => exact q) h1.h)⟩
theorem ZX {ws : List Nat} {F : Nat → Value} {M : (Nat → Value) → World → Prop} (hs : Z4O ws f F) (h : M f w) : Meet n ws F M Q .normal (fr n f) w := ⟨f, by rw [Z20 hs], by rwa [Z20 hs]⟩
end
section
variable {P : Program} {n : Nat} {f : Nat → Value} {w w' : World} {dst : Option Tmp} {ty : TypeId} {pos : String} {aft : Array Edge} {gd : Option (Nat × Bool)}
theorem e_len {κ ν : Type} {encK : κ → Value} {encV : ν → Value} {l : List (κ × ν)} {b : Nat} {T kt et : TypeId} {x : Operand} (hT : P.underlying T = some (.map kt et)) (h : MapAt w b encK encV l) (hx : ev n f x = .map (some b)) :
  (execOp (ev n f) ⟨dst, .call { callee := .builtin .len, args := #[x], argTypes := #[T] }, ty, pos, aft, gd⟩).run P w = .ok (.value (.int .i64 (l.length : Int))) w := by
 have := h.len (P := P) hT ty
 simp [execOp, resolve, invoke, builtin, hx, this, Result.andThen]
theorem Z6u {o : Oper} {k : IntKind} {a b : Int} (hr : (execOp (ev n f) o).run P w = (Op.intDiv .rem k a b >>= fun v => pure (Next.value v)).run P w) (h1 : 0 ≤ a) (h2 : 0 < b) : (execOp (ev n f) o).run P w = .ok (.value (.int k (a % b))) w := by
 rw [hr]
 have : ¬ b = 0 := by omega
 simp [Op.intDiv, this, Int.tmod_eq_emod_of_nonneg h1]
theorem e_tmod {o : Oper} {k : IntKind} {a b : Int} (hr : (execOp (ev n f) o).run P w = (Op.intDiv .rem k a b >>= fun v => pure (Next.value v)).run P w) (h : b ≠ 0) : (execOp (ev n f) o).run P w = .ok (.value (.int k (a.tmod b))) w := by
 rw [hr]
 simp [Op.intDiv, h]
theorem e_quo {o : Oper} {k : IntKind} {a b : Int} (hr : (execOp (ev n f) o).run P w = (Op.intDiv .quo k a b >>= fun v => pure (Next.value v)).run P w) (h1 : 0 ≤ a) (h2 : 0 < b) (hw : k.wrap (a / b) = a / b) : (execOp (ev n f) o).run P w = .ok (.value (.int k (a / b))) w := by
 rw [hr]
 have : ¬ b = 0 := by omega
 simp [Op.intDiv, this, Int.tdiv_eq_ediv_of_nonneg h1, hw]
end
theorem Z4t (v n : Int) (h : 1 ≤ n) : -n < v.tmod n ∧ v.tmod n < n := by
 have h1 : v.tmod n < n := Int.tmod_lt_of_pos v (by omega)
 have h2 : (-v).tmod n < n := Int.tmod_lt_of_pos (-v) (by omega)
 rw [Int.neg_tmod] at h2
 omega
theorem Z3M (v n : Int) (h : 1 ≤ n) : v % n = (if v.tmod n < 0 then v.tmod n + n else v.tmod n) := by
 have h1 := Z4t v n h
 have h2 : v % n = (v.tmod n) % n := by
  have h3 := Int.mul_tdiv_add_tmod v n
  have h4 : (n * v.tdiv n + v.tmod n) % n = (v.tmod n) % n := by rw [Int.add_comm]; exact Int.add_mul_emod_self_left _ _ _
  rwa [h3] at h4
 rw [h2]
 split
 ·rw [← Int.add_emod_right]
  exact Int.emod_eq_of_lt (by omega) (by omega)
 ·exact Int.emod_eq_of_lt (by omega) (by omega)
def Z2M (P : Program) (T e : TypeId) (size bytes : Nat) : Bool :=
  (match P.underlying T with
   | some (.slice e') => Nat.beq e' e
   | _ => false) &&
  (match P.info? e with
   | some i => Nat.beq i.size size && Nat.beq i.bytes bytes && (match i.zero with
     | some z => Nat.beq z.cells.size size
     | none => false)
   | none => false) && Nat.blt 0 size
theorem Z2s {P : Program} {T e : TypeId} {size bytes : Nat} (h : Z2M P T e size bytes = true) : ∃ i z, P.underlying T = some (.slice e) ∧ P.info? e = some i ∧ i.zero = some z ∧ i.size = size ∧ i.bytes = bytes ∧ z.cells.size = size ∧ 0 < size := by
 unfold Z2M at h
 simp only [Bool.and_eq_true] at h
 obtain ⟨⟨h1, h2⟩, h3⟩ := h
 split at h1
 ·rename_i e' hu
  obtain rfl := Nat.eq_of_beq_eq_true h1
  split at h2
  ·rename_i i hi
   simp only [Bool.and_eq_true] at h2
   obtain ⟨⟨h4, h5⟩, h6⟩ := h2
   split at h6
   ·rename_i z hz
    exact ⟨i, z, hu, hi, hz, Nat.eq_of_beq_eq_true h4, Nat.eq_of_beq_eq_true h5, Nat.eq_of_beq_eq_true h6, by simpa [Nat.blt_eq] using h3⟩
   ·cases h6
  ·cases h2
 ·cases h1
theorem Z2w {P : Program} (w : World) (t ty e : TypeId) (i : TypeInfo) (ht : P.underlying t = some (.slice e)) (hi : P.info? e = some i) {v : Value} {n : Nat} {xs : List Value} {size : Nat} (h : w.ownsRow 0 e size v n xs) :
  (Builtin.append_ #[t, t] ty #[v, .slice none 0 0]).run P w = .ok v w := by
 rcases h.2 with ⟨rfl, rfl⟩ | ⟨g, cap, cur, rfl, hb, hgg, hc, hm, hcs, htake⟩
 ·simp [Builtin.append_, run_underlying ht, sizeOf, typeInfo, hi, Builtin.lenOf, Builtin.firstCells, Result.andThen]
 ·have hst : ∀ a : Addr, (storeCells a [] 0).run P w = .ok () w := fun a => by simp [storeCells]
  simp [Builtin.append_, run_underlying ht, sizeOf, typeInfo, hi, Builtin.lenOf, Builtin.firstCells, Result.andThen, hc, hst]
theorem Z1W {w w' : World} {r : Option Nat} (h : w.grownBy w' r) : Ext w w' := ⟨h.os, h.tape, h.output, h.size⟩
section
variable {P : Program} {n : Nat} {f : Nat → Value} {w w' : World} {dst : Option Tmp} {ty : TypeId} {pos : String} {aft : Array Edge} {gd : Option (Nat × Bool)} {w0 : World} {G : List Ck} {K : Act → World → Prop} {Q : Exit → Act → World → Prop}
theorem Z2P {T e : TypeId} {size bytes : Nat} (hR : Z2M P T e size bytes = true) {v u : Value} {k m : Nat} {xs ys : List Value} (hv : w.ownsRow 0 e size v k xs) (hu : w.ownsRow 0 e size u m ys) (h1 : ys.all (·.oneCell') = true) (hb : (k + m) * bytes ≤ 140737488355328) (h63 : k + m ≤ 140737488355328) :
  ∃ v' w', (Builtin.append_ #[T, T] ty #[v, u]).run P w = .ok v' w' ∧ w'.ownsRow 0 e size v' (k + m) (xs ++ ys) ∧ w.grownBy w' v.ownBlock ∧ ∀ b, v'.ownBlock = some b → v.ownBlock = some b ∨ w.heap.size ≤ b := by
 obtain ⟨i, z, ht, hi, hz, hs, hby, hzs, h0⟩ := Z2s hR
 have hu2 := hu
 rcases hu2.2 with ⟨rfl, rfl⟩ | ⟨g, cap, cur, rfl, hbg, hgg, hc, hm, hcs, htake⟩
 ·obtain rfl : ys = [] := List.eq_nil_of_length_eq_zero (by simpa using hu.1)
  exact ⟨v, w, Z2w w T ty e i ht hi hv, by simpa using hv, ⟨rfl, rfl, rfl, Nat.le_refl _, fun _ _ _ => rfl⟩, fun b h => .inl h⟩
 ·exact Z2O w 0 T ty e i z size bytes ht hi hz hs hby hzs h0 v k xs hv ⟨g, 0, none⟩ m cap ys hu.1 (hu.cells (g := g) rfl) (fun x hx => List.all_eq_true.1 h1 x hx) (by unfold maxLen; omega) hb (Nat.zero_le _)
theorem Z2q {T : TypeId} {x y : Operand} {v u v' : Value} (hx : ev n f x = v) (hy : ev n f y = u) (h : (Builtin.append_ #[T, T] ty #[v, u]).run P w = .ok v' w') :
  (execOp (ev n f) ⟨dst, .call { callee := .builtin .append, args := #[x, y], argTypes := #[T, T] }, ty, pos, aft, gd⟩).run P w = .ok (.value v') w' := by
 simp [execOp, resolve, invoke, builtin, hx, hy, h, Result.andThen]
theorem Z0p {T e : TypeId} {size bytes : Nat} {x y : Operand} {d : Nat} (hd : dst = some d) (H : Sat w0 G w) (hR : Z2M P T e size bytes = true) (i j : Nat) {v u : Value} {k m : Nat} {xs ys : List Value} (hi : G[i]? = some (Zd e size v k xs)) (hj : G[j]? = some (Zd e size u m ys))
  (hx : ev n f x = v) (hy : ev n f y = u) (h1 : ys.all (·.oneCell') = true) (hb : (k + m) * bytes ≤ 140737488355328) (h63 : k + m ≤ 140737488355328)
  (kk : ∀ v' w', Sat w0 (G.set i (Zd e size v' (k + m) (xs ++ ys))) w' → K (fr n (upd f d v')) w') : WO P ⟨dst, .call { callee := .builtin .append, args := #[x, y], argTypes := #[T, T] }, ty, pos, aft, gd⟩ K Q n f w := by
 obtain ⟨v', w', hr, ho, hg, hn⟩ := Z2P (ty := ty) hR (H.at i hi) (H.at j hj) h1 hb h63
 exact Z24 hd (Z2q hx hy hr) (kk v' w' (H.set i hi (Z1W hg) (fun b hb hne => hg.block b hb fun e => hne e.symm) ho hn))
theorem Z41 {T e : TypeId} {size bytes : Nat} {x y : Operand} {d : Nat} (hd : dst = some d) (H : Sat w0 G w) (hR : Z2M P T e size bytes = true) {u : Value} {m : Nat} {ys : List Value} (hj : (Zd e size u m ys).ok w)
  (hx : ev n f x = .slice none 0 0) (hy : ev n f y = u) (h1 : ys.all (·.oneCell') = true) (hb : m * bytes ≤ 140737488355328) (h63 : m ≤ 140737488355328)
  (kk : ∀ v' w', Sat w0 (G ++ [Zd e size v' m ys]) w' → K (fr n (upd f d v')) w') : WO P ⟨dst, .call { callee := .builtin .append, args := #[x, y], argTypes := #[T, T] }, ty, pos, aft, gd⟩ K Q n f w := by
 obtain ⟨v', w', hr, ho, hg, hn⟩ := Z2P (ty := ty) hR (World.ownsRow_nil w 0 e size) hj h1 (by simpa using hb) (by simpa using h63)
 simp only [Nat.zero_add, List.nil_append] at ho
 refine Z24 hd (Z2q hx hy hr) (kk v' w' (H.add (Z1W hg) (fun b hb => hg.block b hb (by simp [Value.ownBlock])) ho fun b hb => ?_))
 rcases hn b hb with h | h
 ·simp [Value.ownBlock] at h
 ·exact h
theorem Sat.roCk {W : World} {D : Nat → Prop} {A : Ck} (H : Sat w0 G w) (i : Nat) (hi : G[i]? = some (Zb W D)) (h : A.ok W) (hD : ∀ b, A.fp b → ¬ D b) : A.ok w := A.stay h fun b hb => H.at i hi b (A.lt h b hb) (hD b hb)
theorem Sat.addNil (H : Sat w0 G w) (e : TypeId) (size : Nat) : Sat w0 (G ++ [Zd e size (.slice none 0 0) 0 []]) w :=
 H.add (Ext.refl w) (fun _ _ => rfl) (World.ownsRow_nil w 0 e size) (fun b hb => by simp [Zd, Value.ownBlock] at hb)
theorem ZP {T e : TypeId} {size bytes N : Nat} {parts : Array (Nat × Operand)} {d : Nat} (hd : dst = some d) (H : Sat w0 G w) (hR : Z2M P T e size bytes = true) {z : Value} (hz : (P.info? e).bind (·.zero) = some z) {pvs : List (Nat × Value)} {vs : List Value}
  (hp : (parts.map fun q => (q.1, ev n f q.2)).toList = pvs) (hf : Instr.fill (fun j => some (j * size, size)) ((Array.range (N * size)).map fun q => z.cells[q % z.cells.size]!) pvs = some ⟨vs⟩) (hl : Nat.beq vs.length (N * size) = true) (hN : Nat.blt 0 N = true) (hsz : Nat.ble (N * size) 16777216 = true)
  (kk : ∀ b w', Sat w0 (G ++ [Zd e size (.slice (some ⟨b, 0, none⟩) N N) N vs]) w' → K (fr n (upd f d (.slice (some ⟨b, 0, none⟩) N N))) w') : WO P ⟨dst, .buildSlice T N parts, ty, pos, aft, gd⟩ K Q n f w := by
 obtain ⟨i, z', ht, hi, hz', hs, hby, hzs, h0⟩ := Z2s hR
 have hl := Nat.eq_of_beq_eq_true hl
 have hsz := Nat.le_of_ble_eq_true hsz
 have hN : 0 < N := by simpa [Nat.blt_eq] using hN
 have hpos : 0 < N * size := Nat.mul_pos hN h0
 have hr : (execOp (ev n f) ⟨dst, .buildSlice T N parts, ty, pos, aft, gd⟩).run P w = .ok (.value (.slice (some ⟨w.heap.size, 0, none⟩) N N)) (w.alloc (.cells ⟨vs⟩ e (0, 0))) := by
  have hp2 : (parts.map fun q => (q.1, ev n f q.2)).toList = pvs := hp
  simp only [execOp, Instr.buildSlice]
  have hzv := Z21 (P := P) (w := w) hz
  have h1 : ¬ 16777216 < N * size := by omega
  have h2 : ¬ N * size = 0 := by omega
  simp only [hp2]
  simp [run_underlying ht, sizeOf, typeInfo, hi, hs, Result.andThen, h1, h2, hzv, hf, newRow]
 refine Z24 hd hr (kk _ _ (H.add ⟨rfl, rfl, rfl, by simp⟩ (fun b hb => Below.heap_alloc w _ b hb) ?_ (fun b hb => ?_)))
 ·refine ⟨hl, .inr ⟨w.heap.size, N, ⟨vs⟩, rfl, Nat.zero_le _, Z0K w _, Nat.le_refl _, ?_, by simpa using hl, ?_⟩⟩
  ·have := Nat.le_mul_of_pos_right N h0
   unfold maxLen; omega
  ·rw [← hl]; simp
 ·simp [Zd, Value.ownBlock] at hb; omega
theorem Z2t {e size : Nat} {v : Value} {k : Nat} {xs : List Value} {g o c : Nat} (h : (Zd e size v k xs).ok w) (hv : v = .slice (some ⟨g, 0, none⟩) k c) {u : Value} (hu : xs[o]? = some u) : w.cell? ⟨g, o, none⟩ = some u := by
 have := World.ownsRow.cells h (g := g) (by rw [hv]; rfl) o u hu
 rw [Addr.add_lit] at this
 simpa using this
theorem Z1h {e size : Nat} {v : Value} {k : Nat} {xs : List Value} (h : (Zd e size v k xs).ok w) (hk : 0 < k) : ∃ g c, v = .slice (some ⟨g, 0, none⟩) k c := by
 rcases h.2 with ⟨_, h0⟩ | ⟨g, cap, _, hv, _⟩
 ·omega
 ·exact ⟨g, cap, hv⟩
end
theorem Z2r {α : Type} (enc : α → List Value) (size : Nat) (hs : ∀ x, (enc x).length = size) : ∀ (L : List α) (i j : Nat) (x : α), L[i]? = some x → j < size → (L.flatMap enc)[i * size + j]? = (enc x)[j]?
 | [], i, j, x, h, _ => by simp at h
 | y :: L, 0, j, x, h, hj => by
  simp at h; subst h
  simp only [List.flatMap_cons, Nat.zero_mul, Nat.zero_add]
  rw [List.getElem?_append_left (by rw [hs]; exact hj)]
 | y :: L, i + 1, j, x, h, hj => by
  simp only [List.getElem?_cons_succ] at h
  simp only [List.flatMap_cons]
  rw [List.getElem?_append_right (by rw [hs, Nat.succ_mul]; omega), hs]
  have e : (i + 1) * size + j - size = i * size + j := by rw [Nat.succ_mul]; omega
  rw [e]
  exact Z2r enc size hs L i j x h hj
theorem Z1B {α : Type} (enc : α → List Value) (size : Nat) (hs : ∀ x, (enc x).length = size) (L : List α) : (L.flatMap enc).length = L.length * size := by
 induction L with
 | nil => simp
 | cons y L ih => simp only [List.flatMap_cons, List.length_append, hs, ih, List.length_cons, Nat.succ_mul]; omega
theorem Z0f {α : Type} (enc : α → List Value) (h : ∀ x, (enc x).all (·.oneCell') = true) (L : List α) : (L.flatMap enc).all (·.oneCell') = true := by
 rw [List.all_eq_true]
 intro v hv
 obtain ⟨x, _, hx⟩ := List.mem_flatMap.1 hv
 exact List.all_eq_true.1 (h x) v hx
def Z1F (w : World) (a : Addr) (vs : List Value) : Prop := ∀ j v, vs[j]? = some v → w.cell? (a.add j) = some v
section
variable {P : Program} {n : Nat} {f : Nat → Value} {w : World} {dst : Option Tmp} {ty : TypeId} {pos : String} {aft : Array Edge} {gd : Option (Nat × Bool)}
theorem Z0D {T : TypeId} {x : Operand} {p : Addr} {vs : List Value} (hx : ev n f x = .pointer (some p)) (hT : Z3Q P T = true) (hN : P.cellsOf T = vs.length) (h0 : 0 < vs.length) (hc : Z1F w p vs) :
  (execOp (ev n f) ⟨dst, .load T x, ty, pos, aft, gd⟩).run P w = .ok (.value (.agg ⟨vs⟩)) w := by
 have hl : (loadCells p vs.length).run P w = .ok vs.toArray w := run_loadCells_list w p vs hc
 simp only [execOp, Instr.loadAt, hx, Instr.sureAddr, loadVar]
 simp [Z1l hT, Z0c hN h0, hl, Result.andThen]
theorem Z2f {T E : TypeId} {x y : Operand} {v : Value} {b len cap sz : Nat} {k : IntKind} {z : Int} (hT : P.underlying T = some (.slice E)) (hs : P.cellsOf E = sz) (h0 : 0 < sz) (hx : ev n f x = v) (hv : v = .slice (some ⟨b, 0, none⟩) len cap) (hy : ev n f y = .int k z) (h1 : 0 ≤ z) (h2 : z < len) :
  (execOp (ev n f) ⟨dst, .indexAddr T x y, ty, pos, aft, gd⟩).run P w = .ok (.value (.pointer (some ⟨b, 0 + z.toNat * sz, none⟩))) w :=
 Z0w hT hs h0 (hx.trans hv) hy h1 h2
end
section
variable {α : Type} {enc : α → List Value} {size : Nat} {w : World} {e g o c i : Nat} {v : Value} {L : List α} {x : α}
theorem Z00 (h : (Zd e size v L.length (L.flatMap enc)).ok w) (hv : v = .slice (some ⟨g, 0, none⟩) L.length c) (hs : ∀ x, (enc x).length = size) (hx : L[i]? = some x) (j : Nat) (hj : Nat.blt j size = true) (ho : o = i * size + j) {u : Value} (hu : (enc x)[j]? = some u) : w.cell? ⟨g, o, none⟩ = some u := by
 refine Z2t h hv ?_
 rw [ho, Z2r enc size hs L i j x hx (by simpa [Nat.blt_eq] using hj)]
 exact hu
theorem Z1c (h : (Zd e size v L.length (L.flatMap enc)).ok w) (hv : v = .slice (some ⟨g, 0, none⟩) L.length c) (hs : ∀ x, (enc x).length = size) (hx : L[i]? = some x) (j : Nat) (ho : o = i * size + j) {us : List Value} (hj : Nat.ble (j + us.length) size = true) (hu : ((enc x).drop j).take us.length = us) : Z1F w ⟨g, o, none⟩ us := by
 intro q u hq
 have hj := Nat.le_of_ble_eq_true hj
 have hql : q < us.length := (List.getElem?_eq_some_iff.1 hq).1
 rw [Addr.add_lit]
 refine Z00 h hv hs hx (j + q) (by simp [Nat.blt_eq]; omega) (by omega) ?_
 rw [← hu, List.getElem?_take, if_pos hql, List.getElem?_drop] at hq
 exact hq
end
theorem Z6n {α : Type} {L : List α} {i : Nat} (h : i < L.length) : ∃ x, L[i]? = some x := ⟨L[i], List.getElem?_eq_getElem h⟩
section
variable {P : Program} {ops : Array Oper} {S : World → Prop} {B : List Nat} {Q : Exit → Act → World → Prop} {n : Nat} {f : Nat → Value} {w : World} {listed : Array Bool} {fuel : Nat}
end
end Go.Proofs.YtgigjkjdmalmaaaGreat
