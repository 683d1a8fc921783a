/- WHAT IS PROVED: contracts and plain laws of BookD, Iter, Entry, Sep. Conditions: stated with each. -/
import Derived.Maps.RangeRun
import Derived.Test.YtgigjkjdmalmaaaGreatPR02
set_option maxHeartbeats 4000000
set_option maxRecDepth 100000
namespace Go.Proofs.YtgigjkjdmalmaaaGreat
open Go.RowKit
structure Z5 where
 p : Int
 s : List UInt8
 deriving DecidableEq
def Zc (x : Z5) : Value := .agg #[.int .i64 x.p, Zt x.s]
theorem Z5C (w : World) (x y : Z5) : (Op.equal 125 (Zc x) (Zc y)).run Tryz.prog w = .ok (decide (x = y)) w := by
 simp only [Op.equal, Op.maxDepth, Zc, Zt]
 simp [go_sem]
 obtain ⟨x1, x2⟩ := x
 obtain ⟨y1, y2⟩ := y
 have := Z5E x2 y2
 by_cases h1 : x1 = y1 <;> by_cases h2 : x2 = y2 <;> simp_all
theorem Z3X (w : World) (em : Bool) (x : Z5) : (Instr.checkKey em 10000 125 (Zc x)).run Tryz.prog w = .ok () w := by
 have h : ∀ n, (Instr.checkKey em (n + 2) 125 (Zc x)).run Tryz.prog w = .ok () w := fun n => by simp [Instr.checkKey, Zc, Zt, go_sem]
 exact h 9998
theorem Z3r : KeyTy Tryz.prog 125 Zc := KeyTy.deep (by kernel_rfl) Z3X Z5C (by
 intro a
 simp [Zc, Zt, Instr.sameBits, Z6f])
def Zk (l : List Z5) : List (Z5 × Int) := l.zipIdx.map fun x => (x.1, (x.2 : Int) + 1)
def Z9 (l : List Z5) (x : Z5) : Int := ((l.idxOf? x).map fun i => (i : Int) + 1).getD 0
def Zd (l : List Z5) (x : Z5) : List Z5 := if x ∈ l then l else l ++ [x]
def BookAt (w : World) (b mb : Nat) (l : List Z5) : Prop := w.heap[b]? = some (.cells #[.map (some mb)] 108) ∧ b ≠ mb ∧ MapAt w mb Zc (Value.int .i64) (Zk l)
theorem Z2X (l : List Z5) : (Zk l).map (·.1) = l := by
 simp [Zk, List.map_map, Function.comp_def]
theorem Z64 (l : List Z5) (i : Nat) : (Zk l)[i]? = (l[i]?).map fun x => (x, (i : Int) + 1) := by
 simp [Zk, List.getElem?_map, List.getElem?_zipIdx, Function.comp_def]
theorem Z2V (l : List Z5) (x : Z5) : Zr (Zk l) x = (l.idxOf? x).map fun i => (i : Int) + 1 := by
 rw [Z3Q, Z2X]
 cases h : l.idxOf? x with
 | none => simp
 | some i =>
  obtain ⟨h1, _⟩ := List.idxOf?_eq_some_iff.1 h
  simp [Z64, List.getElem?_eq_getElem h1]
theorem Z5w (l : List Z5) (x : Z5) (h : x ∉ l) : Z1L (Zk l) x ((l.length : Int) + 1) = Zk (l ++ [x]) := by
 unfold Z1L
 rw [Z2X, if_neg h]
 simp [Zk, List.zipIdx_append]
theorem Z5q (l : List Z5) : (Zk l).length = l.length := by simp [Zk]
theorem BookAt.upd {w w' : World} {b mb : Nat} {l : List Z5} {D : List Nat} (h : BookAt w b mb l) (hu : Upd D w w') (h1 : b ∉ D) (h2 : mb ∉ D) : BookAt w' b mb l := ⟨hu.at h.1 h1, h.2.1, h.2.2.upd hu h2⟩
theorem BookAt.lt {w : World} {b mb : Nat} {l : List Z5} (h : BookAt w b mb l) : b < w.heap.size ∧ mb < w.heap.size := ⟨Z12 h.1, h.2.2.lt⟩
theorem BookAt.alloc {w : World} {b mb : Nat} {l : List Z5} (h : BookAt w b mb l) (o : Obj) : BookAt (w.alloc o) b mb l := h.upd ((Upd.refl [] w).alloc o) (by simp) (by simp)
theorem BookAt.drew {w : World} {b mb : Nat} {l : List Z5} (h : BookAt w b mb l) : BookAt w.drew b mb l := h.upd ((Upd.refl [] w).drew) (by simp) (by simp)
theorem Z4l {l : List Z5} {x : Z5} (h : x ∉ l) : Z9 l x = 0 := by
 have : l.idxOf? x = none := List.idxOf?_eq_none_iff.2 h
 simp [Z9, this]
theorem Z4N {l : List Z5} {x : Z5} (h : x ∈ l) : 1 ≤ Z9 l x ∧ Z9 l x ≤ l.length := by
 cases hi : l.idxOf? x with
 | none => exact absurd h (List.idxOf?_eq_none_iff.1 hi)
 | some i =>
  obtain ⟨h1, _⟩ := List.idxOf?_eq_some_iff.1 hi
  simp [Z9, hi]; omega
theorem Z2j {l : List Z5} {x : Z5} (h : x ∈ l) : Zd l x = l := if_pos h
theorem Z3W (l : List Z5) (x : Z5) : (Zd l x).length ≤ l.length + 1 := by unfold Zd; split <;> simp
end Go.Proofs.YtgigjkjdmalmaaaGreat
namespace Go.Proofs.YtgigjkjdmalmaaaGreat
open Go.RowKit
open Go.ChangeMaps (setBlock)
theorem Z3p {w : World} {r : Nat} {o' o : Obj} (h : w.heap[r]? = some o') : (setBlock w r o).heap[r]? = some o := by
 have := Z12 h
 simp [setBlock, this]
theorem Z2N {w : World} {r k : Nat} {o : Obj} (h : r ≠ k) : (setBlock w r o).heap[k]? = w.heap[k]? := by
 simp [setBlock, h]
section
variable {κ ν : Type} {encK : κ → Value} {encV : ν → Value}
def IterAt (w : World) (r b : Nat) (encK : κ → Value) (encV : ν → Value) (l seen : List (κ × ν)) : Prop :=
 r ≠ b ∧ ∃ (es : Array MapEntry) (clock c0 : Nat) (ps sp rp : List (MapEntry × (κ × ν))), w.heap[b]? = some (.map es clock) ∧ w.heap[r]? = some (.mapIter (some b) clock (sp.map (·.1.born)).toArray c0) ∧ clock ≤ c0 ∧
  ps.map (·.1) = es.toList ∧ ps.map (·.2) = l ∧ (∀ p ∈ ps, p.1.key = encK p.2.1 ∧ p.1.val = encV p.2.2) ∧ (l.map (·.1)).Nodup ∧
  (es.toList.map (·.born)).Pairwise (· < ·) ∧ (∀ e ∈ es.toList, e.born < clock) ∧ ps.Perm (sp ++ rp) ∧ sp.map (·.2) = seen
def IterAtE (w : World) (r b : Nat) (encK : κ → Value) (encV : ν → Value) (l seen : List (κ × ν)) : Prop :=
 r ≠ b ∧ ∃ (es : Array MapEntry) (clock : Nat) (ps sp rp : List (MapEntry × (κ × ν))), w.heap[b]? = some (.map es clock) ∧ w.heap[r]? = some (.mapIter (some b) clock (sp.map (·.1.born)).toArray clock) ∧
  ps.map (·.1) = es.toList ∧ ps.map (·.2) = l ∧ (∀ p ∈ ps, p.1.key = encK p.2.1 ∧ p.1.val = encV p.2.2) ∧ (l.map (·.1)).Nodup ∧
  (es.toList.map (·.born)).Pairwise (· < ·) ∧ (∀ e ∈ es.toList, e.born < clock) ∧ ps.Perm (sp ++ rp) ∧ sp.map (·.2) = seen
theorem IterAtE.it {w : World} {r b : Nat} {l seen : List (κ × ν)} (h : IterAtE w r b encK encV l seen) : IterAt w r b encK encV l seen := by
 obtain ⟨hne, es, clock, ps, sp, rp, h1, h2, rest⟩ := h
 exact ⟨hne, es, clock, clock, ps, sp, rp, h1, h2, Nat.le_refl _, rest⟩
theorem IterAt.perm {w : World} {r b : Nat} {l seen : List (κ × ν)} (h : IterAt w r b encK encV l seen) : ∃ rest, l.Perm (seen ++ rest) := by
 obtain ⟨_, es, clock, c0, ps, sp, rp, _, _, _, _, h2, _, _, _, _, hp, rfl⟩ := h
 exact ⟨rp.map (·.2), by rw [← h2, ← List.map_append]; exact hp.map _⟩
theorem MapAt.pairs {w : World} {b : Nat} {l : List (κ × ν)} (h : MapAt w b encK encV l) : ∃ (es : Array MapEntry) (clock : Nat) (ps : List (MapEntry × (κ × ν))), w.heap[b]? = some (.map es clock) ∧ ps.map (·.1) = es.toList ∧ ps.map (·.2) = l ∧ (∀ p ∈ ps, p.1.key = encK p.2.1 ∧ p.1.val = encV p.2.2) ∧ (l.map (·.1)).Nodup ∧
  (es.toList.map (·.born)).Pairwise (· < ·) ∧ (∀ e ∈ es.toList, e.born < clock) := by
 obtain ⟨es, clock, hb, he, hn, hp, hc⟩ := h
 have hl : es.toList.length = l.length := by have := congrArg List.length he; simpa using this
 refine ⟨es, clock, es.toList.zip l, hb, List.map_fst_zip (by omega), List.map_snd_zip (by omega), ?_, hn, hp, hc⟩
 intro p hp
 obtain ⟨i, hi, rfl⟩ := List.mem_iff_getElem.1 hp
 simp only [List.length_zip] at hi
 have := congrArg (fun m => m[i]?) he
 simp only [List.getElem?_map, List.getElem?_eq_getElem (show i < es.toList.length by omega), List.getElem?_eq_getElem (show i < l.length by omega), Option.map_some, Option.some.injEq, Prod.mk.injEq] at this
 simpa using this
theorem IterAt.map {w : World} {r b : Nat} {l seen : List (κ × ν)} (h : IterAt w r b encK encV l seen) : MapAt w b encK encV l := by
 obtain ⟨_, es, clock, c0, ps, sp, rp, h1, _, _, h3, h4, h5, h6, h7, h8, _⟩ := h
 refine ⟨es, clock, h1, ?_, h6, h7, h8⟩
 rw [← h3, ← h4, List.map_map, List.map_map]
 refine List.map_congr_left fun p hp => ?_
 obtain ⟨ha, hb⟩ := h5 p hp
 simp [ha, hb]
section
variable {P : Program} {n : Nat} {f : Nat → Value} {w0 w w' : World} {G : List Ck} {dst : Option Tmp} {ty : TypeId} {pos : String} {aft : Array Edge} {gd : Option (Nat × Bool)} {K : Act → World → Prop} {Q : Exit → Act → World → Prop} {b r : Nat} {l seen : List (κ × ν)}
end
def IterR (W w : World) (r b : Nat) (encK : κ → Value) (encV : ν → Value) (l seen : List (κ × ν)) : Prop :=
 r ≠ b ∧ ∃ (es : Array MapEntry) (clock : Nat) (ps sp rp : List (MapEntry × (κ × ν))), W.heap[b]? = some (.map es clock) ∧ w.heap[r]? = some (.mapIter (some b) clock (sp.map (·.1.born)).toArray clock) ∧
  ps.map (·.1) = es.toList ∧ ps.map (·.2) = l ∧ (∀ p ∈ ps, p.1.key = encK p.2.1 ∧ p.1.val = encV p.2.2) ∧ (l.map (·.1)).Nodup ∧
  (es.toList.map (·.born)).Pairwise (· < ·) ∧ (∀ e ∈ es.toList, e.born < clock) ∧ ps.Perm (sp ++ rp) ∧ sp.map (·.2) = seen
def Z1x (W : World) (r b : Nat) (encK : κ → Value) (encV : ν → Value) (l seen : List (κ × ν)) : Ck where
 fp k := k = r
 ok w := IterR W w r b encK encV l seen
 stay h hb := by
  obtain ⟨hne, es, clock, ps, sp, rp, h1, h2, rest⟩ := h
  exact ⟨hne, es, clock, ps, sp, rp, h1, (hb r rfl).trans h2, rest⟩
 lt h k hk := by
  obtain ⟨hne, es, clock, ps, sp, rp, h1, h2, rest⟩ := h
  exact hk ▸ Z12 h2
theorem Sat.ro {w0 w : World} {G : List Ck} (H : Sat w0 G w) {W : World} {D : Nat → Prop} (i : Nat) (hi : G[i]? = some (Zb W D)) {b : Nat} (hb : b < W.heap.size) (hD : ¬ D b) : w.heap[b]? = W.heap[b]? := H.at i hi b hb hD
theorem Sat.roMap {w0 w : World} {G : List Ck} (H : Sat w0 G w) {W : World} {D : Nat → Prop} (i : Nat) (hi : G[i]? = some (Zb W D)) {b : Nat} {l : List (κ × ν)} (hm : MapAt W b encK encV l) (hD : ¬ D b) : MapAt w b encK encV l := hm.stay (H.ro i hi hm.lt hD)
theorem Sat.roCells {w0 w : World} {G : List Ck} (H : Sat w0 G w) {W : World} {D : Nat → Prop} (i : Nat) (hi : G[i]? = some (Zb W D)) {b : Nat} {o : Obj} (hm : W.heap[b]? = some o) (hD : ¬ D b) : w.heap[b]? = some o := (H.ro i hi (Z12 hm) hD).trans hm
theorem Sat.roCell {w0 w : World} {G : List Ck} (H : Sat w0 G w) {W : World} {D : Nat → Prop} (i : Nat) (hi : G[i]? = some (Zb W D)) {b o : Nat} {T : TypeId} {cs : List Value} {v : Value} (hm : W.heap[b]? = some (.cells ⟨cs⟩ T (0, 0))) (hD : ¬ D b) (hv : cs[o]? = some v) : w.cell? ⟨b, o, none⟩ = some v := by
 rw [Z0v (H.roCells i hi hm hD) o]; simpa using hv
section
variable {P : Program} {n : Nat} {f : Nat → Value} {w0 w w' W : World} {D : Nat → Prop} {G : List Ck} {dst : Option Tmp} {ty : TypeId} {pos : String} {aft : Array Edge} {gd : Option (Nat × Bool)} {K : Act → World → Prop} {Q : Exit → Act → World → Prop} {b r : Nat} {l seen : List (κ × ν)}
theorem Z38 {T kt et : TypeId} {x : Operand} {d : Nat} (hd : dst = some d) (H : Sat w0 G w) (j : Nat) (hj : G[j]? = some (Zb W D)) (hm : MapAt W b encK encV l) (hD : ¬ D b) (hT : P.underlying T = some (.map kt et)) (hx : ev n f x = .map (some b))
  (k : ∀ r w', Sat w0 (G ++ [Z1x W r b encK encV l []]) w' → K (fr n (upd f d (.pointer (some ⟨r, 0, none⟩)))) w') : WO P ⟨dst, .range T x, ty, pos, aft, gd⟩ K Q n f w := by
 obtain ⟨es, clock, ps, hW, h1, h2, h3, h4, h5, h6⟩ := hm.pairs
 have hb := H.roCells j hj hW hD
 have hr : (execOp (ev n f) ⟨dst, .range T x, ty, pos, aft, gd⟩).run P w = .ok (.value (.pointer (some ⟨w.heap.size, 0, none⟩))) (w.alloc (.mapIter (some b) clock #[] clock)) := by
  simp only [execOp, hx]
  simp [run_range_map w T kt et b es clock hT hb, Result.andThen]
 refine Z22 hd hr (k _ _ ?_)
 have hlt := Z12 hb
 exact H.add ⟨rfl, rfl, rfl, by simp⟩ (fun k hk => Below.heap_alloc w _ k hk) ⟨by omega, es, clock, ps, [], ps, hW, Z0N w _, h1, h2, h3, h4, h5, h6, by simp, rfl⟩ (fun k hk => Nat.le_of_eq hk.symm)
theorem Z4g {x : Operand} {d : Nat} (hd : dst = some d) (H : Sat w0 G w) (i : Nat) (hi : G[i]? = some (Z1x W r b encK encV l seen)) (j : Nat) (hj : G[j]? = some (Zb W D)) (hD : ¬ D b) (hx : ev n f x = .pointer (some ⟨r, 0, none⟩))
  (k0 : l.Perm seen → K (fr n (upd f d (.tuple #[.bool false]))) w)
  (k1 : ∀ (y : κ × ν) (rest : List (κ × ν)) w', l.Perm ((seen ++ [y]) ++ rest) → Sat w0 (G.set i (Z1x W r b encK encV l (seen ++ [y]))) w' → K (fr n (upd f d (.tuple #[.bool true, encK y.1, encV y.2]))) w') : WO P ⟨dst, .next x false, ty, pos, aft, gd⟩ K Q n f w := by
 obtain ⟨hne, es, clock, ps, sp, rp, hW, h2, h3, h4, h5, h6, h7, h8, hp, rfl⟩ := H.at i hi
 have h1 := H.roCells j hj hW hD
 have hbn : (es.toList.map (·.born)).Nodup := List.Pairwise.imp (fun h => Nat.ne_of_lt h) h7
 have hbn2 : ((sp ++ rp).map (·.1.born)).Nodup := by
  have : (ps.map (·.1.born)).Nodup := by
   have e : ps.map (·.1.born) = es.toList.map (·.born) := by rw [← h3, List.map_map]; rfl
   rw [e]; exact hbn
  exact (hp.map _).nodup_iff.1 this
 rcases run_next_at (P := P) w ty r b clock clock (sp.map (·.1.born)).toArray es clock h2 h1 h8 (Nat.le_refl _) with ⟨h0, hr⟩ | ⟨e, he, w1, hw1, hr⟩
 ·have hrp : rp = [] := by
   rcases rp with _ | ⟨p, rp⟩
   ·rfl
   ·exfalso
    have hpm : p ∈ ps := hp.symm.subset (by simp)
    have hem : p.1 ∈ es.toList := by rw [← h3]; exact List.mem_map_of_mem hpm
    have hns : p.1.born ∉ sp.map (·.1.born) := by
     rw [List.map_append, List.nodup_append] at hbn2
     intro hx
     exact hbn2.2.2 _ hx p.1.born (by simp) rfl
    have : p.1 ∈ (leftOf es (sp.map (·.1.born)).toArray).toList := by
     simp only [leftOf, Array.toList_filter, List.mem_filter]
     refine ⟨hem, ?_⟩
     simpa using fun a c hac => fun e => hns (List.mem_map.2 ⟨(a, c), hac, e⟩)
    have h0' : (leftOf es (sp.map (·.1.born)).toArray).toList = [] := by simpa using h0
    rw [h0'] at this; cases this
  subst hrp
  have hr' : (execOp (ev n f) ⟨dst, .next x false, ty, pos, aft, gd⟩).run P w = .ok (.value (.tuple #[.bool false])) w := by
   simp only [execOp, hx]
   simp [hr, Result.andThen]
  refine Z22 hd hr' (k0 ?_)
  rw [← h4]
  simpa using hp.map (·.2)
 ·have hr' : (execOp (ev n f) ⟨dst, .next x false, ty, pos, aft, gd⟩).run P w = .ok (.value (.tuple #[.bool true, e.key, e.val])) (setBlock w1 r (.mapIter (some b) clock ((sp.map (·.1.born)).toArray.push e.born) clock)) := by
   simp only [execOp, hx]
   simp [hr, Result.andThen]
  simp only [leftOf, Array.toList_filter, List.mem_filter] at he
  obtain ⟨hem, hns⟩ := he
  rw [← h3] at hem
  obtain ⟨p, hpm, rfl⟩ := List.mem_map.1 hem
  have hpr : p ∈ rp := by
   rcases List.mem_append.1 (hp.subset hpm) with h | h
   ·exfalso
    simp only [List.contains_toArray, Bool.not_eq_true', List.contains_eq_mem, decide_eq_false_iff_not] at hns
    exact hns (List.mem_map.2 ⟨p, h, rfl⟩)
   ·exact h
  obtain ⟨s, t, rfl⟩ := List.append_of_mem hpr
  have hp2 : ps.Perm ((sp ++ [p]) ++ (s ++ t)) := by
   refine hp.trans ?_
   rw [List.append_assoc]
   exact List.Perm.append_left _ (List.perm_middle)
  obtain ⟨ek, evv⟩ := h5 p hpm
  rw [ek, evv] at hr'
  have hw1h : w1.heap = w.heap := by rcases hw1 with rfl | rfl <;> rfl
  have hr1 : w1.heap[r]? = some (.mapIter (some b) clock (sp.map (·.1.born)).toArray clock) := by rw [hw1h]; exact h2
  refine Z22 hd hr' (k1 p.2 ((s ++ t).map (·.2)) _ ?_ ?_)
  ·rw [← h4]
   simpa using hp2.map (·.2)
  ·refine H.set i hi ?_ ?_ ?_ (fun k hk => .inl hk)
   ·rcases hw1 with rfl | rfl <;> exact ⟨rfl, rfl, rfl, by simp [setBlock]⟩
   ·intro k _ hk
    rw [Z2N (fun e => hk e.symm), hw1h]
   ·refine ⟨hne, es, clock, ps, sp ++ [p], s ++ t, hW, ?_, h3, h4, h5, h6, h7, h8, hp2, by simp⟩
    rw [Z3p hr1]
    simp
theorem Z5R {x : Operand} {y : κ × ν} (h : IterR W w r b encK encV l (seen ++ [y])) (hWw : w.heap[b]? = W.heap[b]?) (hx : ev n f x = .pointer (some ⟨r, 0, none⟩)) :
  (execOp (ev n f) ⟨dst, .entry x, ty, pos, aft, gd⟩).run P w = .ok (.value (.tuple #[encK y.1, encV y.2])) w := by
 obtain ⟨hne, es, clock, ps, sp, rp, hW, h2, h3, h4, h5, h6, h7, h8, hp, hs⟩ := h
 have h1 := hWw.trans hW
 have hbn : (es.toList.map (·.born)).Nodup := List.Pairwise.imp (fun h => Nat.ne_of_lt h) h7
 obtain ⟨sp', p, rfl⟩ : ∃ sp' p, sp = sp' ++ [p] := by
  rcases List.eq_nil_or_concat sp with rfl | ⟨a, c, rfl⟩
  ·simp at hs
  ·exact ⟨a, c, by simp⟩
 simp only [List.map_append, List.map_cons, List.map_nil] at hs
 have hpy : p.2 = y := by have := List.append_inj_right' hs rfl; simpa using this
 have hpm : p ∈ ps := hp.symm.subset (by simp)
 have hem : p.1 ∈ es.toList := by rw [← h3]; exact List.mem_map_of_mem hpm
 obtain ⟨ek, evv⟩ := h5 p hpm
 have h2' : w.heap[r]? = some (.mapIter (some b) clock ((sp'.map (·.1.born)).toArray.push p.1.born) clock) := by
  rw [h2]; simp
 have := run_entry_at (P := P) w r b clock _ es clock p.1 h2' h1 hem hbn
 rw [ek, evv, hpy] at this
 simp only [execOp, hx]
 simp [this, Result.andThen]
theorem Sat.entryR (H : Sat w0 G w) {x : Operand} {y : κ × ν} (i : Nat) (hi : G[i]? = some (Z1x W r b encK encV l (seen ++ [y]))) (j : Nat) (hj : G[j]? = some (Zb W D)) (hD : ¬ D b) (hx : ev n f x = .pointer (some ⟨r, 0, none⟩)) :
  (execOp (ev n f) ⟨dst, .entry x, ty, pos, aft, gd⟩).run P w = .ok (.value (.tuple #[encK y.1, encV y.2])) w := by
 have h := H.at i hi
 obtain ⟨hne, es, clock, ps, sp, rp, hW, _⟩ := id h
 exact Z5R h (H.ro j hj (Z12 hW) hD) hx
end
end
end Go.Proofs.YtgigjkjdmalmaaaGreat
namespace Go.Proofs.YtgigjkjdmalmaaaGreat
open Go.RowKit
section
variable {κ ν : Type} [DecidableEq κ] {encK : κ → Value} {encV : ν → Value}
def EntryAt (w : World) (b : Nat) (encK : κ → Value) (encV : ν → Value) (l : List (κ × ν)) (a : κ) (x : ν) (st : Int) : Prop :=
 ∃ (es : Array MapEntry) (clock i : Nat), w.heap[b]? = some (.map es clock) ∧ es.toList.map (fun e => (e.key, e.val)) = (Z1L l a x).map (fun y => (encK y.1, encV y.2)) ∧ ((Z1L l a x).map (·.1)).Nodup ∧
  (es.toList.map (·.born)).Pairwise (· < ·) ∧ (∀ e ∈ es.toList, e.born < clock) ∧ ((Z1L l a x).map (·.1))[i]? = some a ∧ (es[i]?).map (fun e => (e.born : Int)) = some st
omit [DecidableEq κ] in
omit [DecidableEq κ] in
theorem EntryAt.map [DecidableEq κ] {w : World} {b : Nat} {l : List (κ × ν)} {a : κ} {x : ν} {st : Int} (h : EntryAt w b encK encV l a x st) : MapAt w b encK encV (Z1L l a x) := by
 obtain ⟨es, clock, i, h1, h2, h3, h4, h5, _⟩ := h
 exact ⟨es, clock, h1, h2, h3, h4, h5⟩
theorem Z3g (l : List (κ × ν)) (a : κ) (x : ν) : Zr (Z1L l a x) a = some x := by
 unfold Z1L Zr
 split
 ·rename_i h
  obtain ⟨y, hy, e⟩ := List.mem_map.1 h
  have : (l.map fun z => if z.1 = a then (a, x) else z).find? (fun z => z.1 == a) = some (a, x) := by
   clear h
   induction l with
   | nil => cases hy
   | cons z l ih =>
    by_cases hz : z.1 = a
    ·simp [hz]
    ·have hy' : y ∈ l := by
      rcases List.mem_cons.1 hy with rfl | h
      ·exact absurd e hz
      ·exact h
     simp [hz, ih hy']
  rw [this]; rfl
 ·rename_i h
  have : l.find? (fun z => z.1 == a) = none := by
   rw [List.find?_eq_none]
   intro z hz
   simp only [beq_iff_eq]
   exact fun e => h (List.mem_map.2 ⟨z, hz, e⟩)
  simp [List.find?_append, this]
section
variable {P : Program} {n : Nat} {f : Nat → Value} {w0 w w' : World} {G : List Ck} {dst : Option Tmp} {ty : TypeId} {pos : String} {aft : Array Edge} {gd : Option (Nat × Bool)} {K' : Act → World → Prop} {Q : Exit → Act → World → Prop} {b : Nat} {l : List (κ × ν)} {kt et T : TypeId}
end
end
def ZF (L : List Ck) : Ck where
 fp b := ∃ A ∈ L, A.fp b
 ok w := (∀ A ∈ L, A.ok w) ∧ L.Pairwise (fun (A B : Ck) => ∀ b : Nat, A.fp b → ¬ B.fp b)
 stay h hb := ⟨fun A hA => A.stay (h.1 A hA) fun b hfp => hb b ⟨A, hA, hfp⟩, h.2⟩
 lt h b hb := by obtain ⟨A, hA, hfp⟩ := hb; exact A.lt (h.1 A hA) b hfp
section
variable {w0 w w' : World} {G L : List Ck} {A : Ck}
theorem Sat.start (L : List Ck) (h : (ZF L).ok w) : Sat w (L ++ [Zb w (ZF L).fp]) w := by
 refine ⟨Ext.refl w, ?_, ?_⟩
 ·intro B hB
  rcases List.mem_append.1 hB with hB | hB
  ·exact h.1 B hB
  ·obtain rfl := List.mem_singleton.1 hB; exact fun b _ _ => rfl
 ·refine List.pairwise_append.2 ⟨h.2, by simp, ?_⟩
  intro B hB C hC b h1 h2
  obtain rfl := List.mem_singleton.1 hC
  exact h2.2 ⟨B, hB, h1⟩
theorem Sat.fin (H : Sat w0 G w) (is : List Nat) (hn : is.Pairwise (fun a b => Nat.beq a b = false)) (hL : (is.filterMap fun i => G[i]?) = L) : (ZF L).ok w := by
 have h := H.pick is hn
 rw [hL] at h
 exact ⟨h.all, h.dis⟩
theorem Sat.fresh {W : World} {D : Nat → Prop} (H : Sat w0 G w) (i : Nat) (hi : G[i]? = some (Zb W D)) (hD : ∀ b, ¬ D b) (j : Nat) (hj : G[j]? = some A) (hne : Nat.beq j i = false) : ∀ b, A.fp b → W.heap.size ≤ b := fun b hb => by
 have := H.apart j i hj hi hne b hb
 rcases Nat.lt_or_ge b W.heap.size with h | h
 ·exact absurd ⟨h, hD b⟩ this
 ·exact h
theorem Sat.freshS {W : World} {D : Nat → Prop} (H : Sat w0 G w) (i : Nat) (hi : G[i]? = some (Zb W D)) (hD : ∀ b, ¬ D b) (js : List Nat) (hj : (js.filterMap fun j => G[j]?) = L) (hne : js.all (fun j => !Nat.beq j i) = true) : ∀ b, (ZF L).fp b → W.heap.size ≤ b := fun b hb => by
 obtain ⟨A, hA, hfp⟩ := hb
 rw [← hj] at hA
 obtain ⟨j, hjm, hjA⟩ := List.mem_filterMap.1 hA
 have := List.all_eq_true.1 hne j hjm
 exact H.fresh i hi hD j hjA (by simpa using this) b hfp
theorem Sat.open (H : Sat w0 G w) (i : Nat) (hi : G[i]? = some (ZF L)) : Sat w0 (G.take i ++ L ++ G.drop (i + 1)) w := by
 have hok := H.at i hi
 have hd := List.pairwise_iff_getElem.1 H.dis
 obtain ⟨hil, hie⟩ := List.getElem?_eq_some_iff.1 hi
 have hG : G = G.take i ++ ZF L :: G.drop (i + 1) := by
  have := List.take_append_drop i G
  rw [List.drop_eq_getElem_cons hil, hie] at this
  exact this.symm
 have hdis := H.dis
 rw [hG] at hdis
 obtain ⟨p1, p2, p3⟩ := List.pairwise_append.1 hdis
 rw [List.pairwise_cons] at p2
 refine ⟨H.ext, ?_, ?_⟩
 ·intro B hB
  rw [List.append_assoc] at hB
  rcases List.mem_append.1 hB with hB | hB
  ·exact H.all B (List.mem_of_mem_take hB)
  ·rcases List.mem_append.1 hB with hB | hB
   ·exact hok.1 B hB
   ·exact H.all B (List.mem_of_mem_drop hB)
 ·rw [List.append_assoc]
  refine List.pairwise_append.2 ⟨p1, List.pairwise_append.2 ⟨hok.2, p2.2, ?_⟩, ?_⟩
  ·intro B hB C hC b h1 h2
   exact p2.1 C hC b ⟨B, hB, h1⟩ h2
  ·intro B hB C hC b h1 h2
   rcases List.mem_append.1 hC with hC | hC
   ·exact p3 B hB (ZF L) (by simp) b h1 ⟨C, hC, h2⟩
   ·exact p3 B hB C (by simp [hC]) b h1 h2
end
section
variable {P : Program} {Q : Exit → Act → World → Prop} {n : Nat} {f : Nat → Value} {w w' : World}
def Meet (n : Nat) (ws : List Nat) (F : Nat → Value) (M : (Nat → Value) → World → Prop) (Q : Exit → Act → World → Prop) : Exit → Act → World → Prop := Exit.then (fun a w => ∃ g, a = fr n (ovr ws g F) ∧ M (ovr ws g F) w) Q
theorem Z0p {x y : Code} (ws : List Nat) (M : (Nat → Value) → World → Prop) (h1 : WC P x (Meet n ws f M Q) n f w) (h2 : ∀ g w, M (ovr ws g f) w → WC P y Q n (ovr ws g f) w) : WC P (Code.seq x y) Q n f w :=
 ⟨wp_seq (Code.wp_mono (fun e a w q => by
  cases e with
  | normal => obtain ⟨g, rfl, hm⟩ := q; exact (h2 g w hm).h
  | _ => exact q) h1.h)⟩
theorem ZS {ws : List Nat} {F : Nat → Value} {M : (Nat → Value) → World → Prop} (hs : Z50 ws f F) (h : M f w) : Meet n ws F M Q .normal (fr n f) w := ⟨f, by rw [Z1X hs], by rwa [Z1X hs]⟩
end
section
variable {P : Program} {n : Nat} {f : Nat → Value} {w w' : World} {dst : Option Tmp} {ty : TypeId} {pos : String} {aft : Array Edge} {gd : Option (Nat × Bool)}
theorem e_len {κ ν : Type} {encK : κ → Value} {encV : ν → Value} {l : List (κ × ν)} {b : Nat} {T kt et : TypeId} {x : Operand} (hT : P.underlying T = some (.map kt et)) (h : MapAt w b encK encV l) (hx : ev n f x = .map (some b)) :
  (execOp (ev n f) ⟨dst, .call { callee := .builtin .len, args := #[x], argTypes := #[T] }, ty, pos, aft, gd⟩).run P w = .ok (.value (.int .i64 (l.length : Int))) w := by
 have := h.len (P := P) hT ty
 simp [execOp, resolve, invoke, builtin, hx, this, Result.andThen]
theorem Z6y {o : Oper} {k : IntKind} {a b : Int} (hr : (execOp (ev n f) o).run P w = (Op.intDiv .rem k a b >>= fun v => pure (Next.value v)).run P w) (h1 : 0 ≤ a) (h2 : 0 < b) : (execOp (ev n f) o).run P w = .ok (.value (.int k (a % b))) w := by
 rw [hr]
 have : ¬ b = 0 := by omega
 simp [Op.intDiv, this, Int.tmod_eq_emod_of_nonneg h1]
theorem e_tmod {o : Oper} {k : IntKind} {a b : Int} (hr : (execOp (ev n f) o).run P w = (Op.intDiv .rem k a b >>= fun v => pure (Next.value v)).run P w) (h : b ≠ 0) : (execOp (ev n f) o).run P w = .ok (.value (.int k (a.tmod b))) w := by
 rw [hr]
 simp [Op.intDiv, h]
theorem e_quo {o : Oper} {k : IntKind} {a b : Int} (hr : (execOp (ev n f) o).run P w = (Op.intDiv .quo k a b >>= fun v => pure (Next.value v)).run P w) (h1 : 0 ≤ a) (h2 : 0 < b) (hw : k.wrap (a / b) = a / b) : (execOp (ev n f) o).run P w = .ok (.value (.int k (a / b))) w := by
 rw [hr]
 have : ¬ b = 0 := by omega
 simp [Op.intDiv, this, Int.tdiv_eq_ediv_of_nonneg h1, hw]
end
theorem Z4F (v n : Int) (h : 1 ≤ n) : -n < v.tmod n ∧ v.tmod n < n := by
 have h1 : v.tmod n < n := Int.tmod_lt_of_pos v (by omega)
 have h2 : (-v).tmod n < n := Int.tmod_lt_of_pos (-v) (by omega)
 rw [Int.neg_tmod] at h2
 omega
theorem Z3Y (v n : Int) (h : 1 ≤ n) : v % n = (if v.tmod n < 0 then v.tmod n + n else v.tmod n) := by
 have h1 := Z4F v n h
 have h2 : v % n = (v.tmod n) % n := by
  have h3 := Int.mul_tdiv_add_tmod v n
  have h4 : (n * v.tdiv n + v.tmod n) % n = (v.tmod n) % n := by rw [Int.add_comm]; exact Int.add_mul_emod_self_left _ _ _
  rwa [h3] at h4
 rw [h2]
 split
 ·rw [← Int.add_emod_right]
  exact Int.emod_eq_of_lt (by omega) (by omega)
 ·exact Int.emod_eq_of_lt (by omega) (by omega)
end Go.Proofs.YtgigjkjdmalmaaaGreat
