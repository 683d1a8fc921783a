/- WHAT IS PROVED: rules for 'm[k]++' and its like: an entry is found or laid, and its value turned. Conditions: stated with each. -/
import Derived.Test.YtenihpghfdcpkaaSat
namespace Go.Proofs.Ytenihpghfdcpkaa
open Go.RowKit
section
variable {κ ν : Type} [DecidableEq κ] {encK : κ → Value} {encV : ν → Value}
/-- block b is a map that holds 'putM l a x', and the entry of a bears the stamp st -/
def EntryAt (w : World) (b : Nat) (encK : κ → Value) (encV : ν → Value) (l : List (κ × ν)) (a : κ) (x : ν) (st : Int) : Prop :=
  ∃ (es : Array MapEntry) (clock i : Nat), w.heap[b]? = some (.map es clock) ∧ es.toList.map (fun e => (e.key, e.val)) = (putM l a x).map (fun y => (encK y.1, encV y.2)) ∧ ((putM l a x).map (·.1)).Nodup ∧
    (es.toList.map (·.born)).Pairwise (· < ·) ∧ (∀ e ∈ es.toList, e.born < clock) ∧ ((putM l a x).map (·.1))[i]? = some a ∧ (es[i]?).map (fun e => (e.born : Int)) = some st
def entryC (b : Nat) (encK : κ → Value) (encV : ν → Value) (l : List (κ × ν)) (a : κ) (x : ν) (st : Int) : Ck where
  fp k := k = b
  ok w := EntryAt w b encK encV l a x st
  stay h hb := by
    obtain ⟨es, clock, i, h1, rest⟩ := h
    exact ⟨es, clock, i, (hb b rfl).trans h1, rest⟩
  lt h _ hk := by
    obtain ⟨es, clock, i, h1, rest⟩ := h
    exact hk ▸ heap_lt h1
theorem entry_eta (e : MapEntry) (k : Value) (h : e.key = k) : ({ e with key := k } : MapEntry) = e := by subst h; rfl
omit [DecidableEq κ] in
theorem idx_self [DecidableEq κ] (l : List (κ × ν)) (a : κ) (x : ν) (h : lookM l a = some x) (hn : (l.map (·.1)).Nodup) : putM l a x = l := by
  have hm : a ∈ l.map (·.1) := by
    unfold lookM at h
    cases hf : l.find? (fun y => y.1 == a) with
    | none => rw [hf] at h; cases h
    | some y =>
      have := List.find?_some hf
      have hy := List.mem_of_find?_eq_some hf
      exact List.mem_map.2 ⟨y, hy, by simpa using this⟩
  unfold putM
  rw [if_pos hm]
  rw [lookM_idx] at h
  cases hi : (l.map (·.1)).idxOf? a with
  | none => rw [hi] at h; cases h
  | some i =>
    rw [map_put_at hn hi]
    rw [hi] at h
    obtain ⟨h1, h2, _⟩ := List.idxOf?_eq_some_iff.1 hi
    have h1' : i < l.length := by simpa using h1
    simp only [Option.bind_some, List.getElem?_eq_getElem h1', Option.map_some, Option.some.injEq] at h
    have h2' : l[i].1 = a := by simpa using h2
    refine List.ext_getElem (by simp) fun j hj1 hj2 => ?_
    rw [List.getElem_set]
    split
    · rename_i e; subst e; rw [← h, ← h2']
    · rfl
theorem putM_putM (l : List (κ × ν)) (a : κ) (x y : ν) : putM (putM l a x) a y = putM l a y := by
  unfold putM
  by_cases h : a ∈ l.map (·.1)
  · have hk : (l.map fun z => if z.1 = a then (a, x) else z).map (·.1) = l.map (·.1) := by
      rw [List.map_map]
      refine List.map_congr_left fun z _ => ?_
      simp only [Function.comp]
      split <;> simp_all
    rw [if_pos h, if_pos h, if_pos (by rw [hk]; exact h), List.map_map]
    refine List.map_congr_left fun z _ => ?_
    simp only [Function.comp]
    by_cases e : z.1 = a <;> simp [e]
  · rw [if_neg h, if_neg h, if_pos (by simp)]
    rw [List.map_append]
    congr 1
    · refine (List.map_congr_left fun z hz => ?_).trans (List.map_id l)
      rw [if_neg (fun e => h (List.mem_map.2 ⟨z, hz, e⟩))]; rfl
    · simp
omit [DecidableEq κ] in
theorem EntryAt.map [DecidableEq κ] {w : World} {b : Nat} {l : List (κ × ν)} {a : κ} {x : ν} {st : Int} (h : EntryAt w b encK encV l a x st) : MapAt w b encK encV (putM l a x) := by
  obtain ⟨es, clock, i, h1, h2, h3, h4, h5, _⟩ := h
  exact ⟨es, clock, h1, h2, h3, h4, h5⟩
theorem look_put_same (l : List (κ × ν)) (a : κ) (x : ν) : lookM (putM l a x) a = some x := by
  unfold putM lookM
  split
  · rename_i h
    obtain ⟨y, hy, e⟩ := List.mem_map.1 h
    have : (l.map fun z => if z.1 = a then (a, x) else z).find? (fun z => z.1 == a) = some (a, x) := by
      clear h
      induction l with
      | nil => cases hy
      | cons z l ih =>
        by_cases hz : z.1 = a
        · simp [hz]
        · have hy' : y ∈ l := by
            rcases List.mem_cons.1 hy with rfl | h
            · exact absurd e hz
            · exact h
          simp [hz, ih hy']
    rw [this]; rfl
  · rename_i h
    have : l.find? (fun z => z.1 == a) = none := by
      rw [List.find?_eq_none]
      intro z hz
      simp only [beq_iff_eq]
      exact fun e => h (List.mem_map.2 ⟨z, hz, e⟩)
    simp [List.find?_append, this]
theorem look_put_other (l : List (κ × ν)) (a c : κ) (x : ν) (h : c ≠ a) : lookM (putM l a x) c = lookM l c := by
  unfold putM lookM
  split
  · congr 1
    induction l with
    | nil => rfl
    | cons z l ih =>
      by_cases hm : a ∈ l.map (·.1)
      · have ih' := ih hm
        by_cases hz : z.1 = a
        · have h1 : (a == c) = false := by simpa using Ne.symm h
          have h2 : (z.1 == c) = false := by rw [hz]; exact h1
          simp only [List.map_cons, hz, if_true, List.find?_cons, h1]
          exact ih'
        · simp only [List.map_cons, hz, if_false, List.find?_cons]
          rw [ih']
      · have hl : (l.map fun z => if z.1 = a then (a, x) else z) = l := by
          refine (List.map_congr_left fun z hz => ?_).trans (List.map_id l)
          rw [if_neg (fun e => hm (List.mem_map.2 ⟨z, hz, e⟩))]; rfl
        rw [List.map_cons, hl]
        by_cases hz : z.1 = a
        · have h1 : (a == c) = false := by simpa using Ne.symm h
          simp only [hz, if_true, List.find?_cons, h1]
        · simp only [hz, if_false]
  · rw [List.find?_append]
    cases l.find? (fun z => z.1 == c) with
    | some z => rfl
    | none => simp [Ne.symm h]
theorem look_put_same' {encV : ν → Value} {z : Value} (l : List (κ × ν)) (a : κ) (x : ν) : ((lookM (putM l a x) a).map encV).getD z = encV x := by rw [look_put_same]; rfl
section
variable {P : Program} {n : Nat} {f : Nat → Value} {w0 w w' : World} {G : List Ck} {dst : Option Tmp} {ty : TypeId} {pos : String} {aft : Array Edge} {gd : Option (Nat × Bool)} {K' : Act → World → Prop} {Q : Exit → Act → World → Prop} {b : Nat} {l : List (κ × ν)} {kt et T : TypeId}
theorem d_mapEntry {x y : Operand} {d : Nat} (hd : dst = some d) (H : Sat w0 G w) (i : Nat) (hi : G[i]? = some (mapC b encK encV l)) (K : KeyTy P kt encK) (hT : P.underlying T = some (.map kt et)) (z : ν) (hz : ∀ w, (zeroValue et).run P w = .ok (encV z) w) (hx : ev n f x = .map (some b)) (a : κ) (hy : ev n f y = encK a)
    (k : ∀ (v : Value) (st : Int) w', Sat w0 (G.set i (entryC b encK encV l a ((lookM l a).getD z) st)) w' → K' (fr n (upd f d (.tuple #[v, .int .i64 st]))) w') : WO P ⟨dst, .mapEntry T x y, ty, pos, aft, gd⟩ K' Q n f w := by
  obtain ⟨es, clock, hb, he, hn, hp, hc⟩ := H.at i hi
  have hf := K.find w a es.toList _ (MapAt.keys he)
  have hst : (Instr.keyThatStays (encK a) (encK a)).run P w = .ok (encK a) w := by simp [Instr.keyThatStays, K.same]
  have hlen : es.toList.length = l.length := by have := congrArg List.length he; simpa using this
  cases hix : (l.map (·.1)).idxOf? a with
  | none =>
    rw [hix] at hf
    have hnot : a ∉ l.map (·.1) := (getElem?_idx a l).1 hix
    have hput : putM l a z = l ++ [(a, z)] := by unfold putM; rw [if_neg hnot]
    have hr : (execOp (ev n f) ⟨dst, .mapEntry T x y, ty, pos, aft, gd⟩).run P w = .ok (.value (.tuple #[encV z, .int .i64 clock])) (ChangeMaps.setBlock w b (.map (es.push { key := encK a, val := encV z, born := clock }) (clock + 1))) := by
      simp only [execOp, hx, hy]
      simp [Instr.mapEntry, run_underlying hT, MapKept.run_getObj_map hb, Result.andThen, K.check, hf, hz, MapKept.run_setObj_map _ hb, ChangeMaps.setBlock, goInt]
    refine d_val hd hr (k _ _ _ (H.set i hi ⟨rfl, rfl, rfl, by simp [ChangeMaps.setBlock]⟩ (fun j _ hj => ChangeMaps.heap_setBlock_other hb _ (fun e => hj e)) ?_ (fun k hk => .inl hk)))
    have hlk : (lookM l a).getD z = z := by rw [lookM_idx, hix]; rfl
    rw [hlk]
    refine ⟨_, _, es.size, ChangeMaps.heap_setBlock_same hb _, ?_, nodup_put hn a z, ?_, ?_, ?_, ?_⟩
    · rw [hput]; simp [he]
    · simp only [Array.toList_push, List.map_append, List.map_cons, List.map_nil]
      refine List.pairwise_append.2 ⟨hp, by simp, ?_⟩
      intro x hx y hy
      simp at hy
      subst hy
      obtain ⟨e0, he0, rfl⟩ := List.mem_map.1 hx
      exact hc e0 he0
    · intro e0 he0
      simp only [Array.toList_push, List.mem_append, List.mem_singleton] at he0
      rcases he0 with he0 | rfl
      · have := hc e0 he0; omega
      · simp
    · rw [hput]
      have : es.size = (l.map (·.1)).length := by simpa using hlen
      simp [this]
    · simp
  | some j =>
    rw [hix] at hf
    obtain ⟨h1, h2, _⟩ := List.idxOf?_eq_some_iff.1 hix
    have hlt : j < l.length := by simpa using h1
    have hes : j < es.size := by simpa [← hlen] using hlt
    have hli : j < es.toList.length := by simpa using hes
    have hla : l[j].1 = a := by simpa using h2
    have hkv : (es[j].key, es[j].val) = (encK l[j].1, encV l[j].2) := by
      have h3 := congrArg (fun m => m[j]?) he
      simp only [List.getElem?_map, List.getElem?_eq_getElem hlt, List.getElem?_eq_getElem hli, Option.map_some, Option.some.injEq] at h3
      simpa using h3
    simp only [Prod.mk.injEq] at hkv
    obtain ⟨hkey, hval⟩ := hkv
    rw [hla] at hkey
    simp only [Option.bind_some, List.getElem?_eq_getElem hli, Option.map_some] at hf
    have hlook : lookM l a = some l[j].2 := by rw [lookM_idx, hix]; simp [hlt]
    have hput := idx_self l a _ hlook hn
    have hsame : (es.modify j fun e => { e with key := encK a }) = es := by
      refine Array.ext (by simp) fun q h4 h5 => ?_
      rw [Array.getElem_modify]
      split
      · rename_i e; subst e; exact entry_eta _ _ hkey
      · rfl
    have hr : (execOp (ev n f) ⟨dst, .mapEntry T x y, ty, pos, aft, gd⟩).run P w = .ok (.value (.tuple #[es[j].val, .int .i64 es[j].born])) (ChangeMaps.setBlock w b (.map es clock)) := by
      simp only [execOp, hx, hy]
      simp [Instr.mapEntry, run_underlying hT, MapKept.run_getObj_map hb, Result.andThen, K.check, hf, hes, hkey, hst, hsame, MapKept.run_setObj_map _ hb, ChangeMaps.setBlock, goInt]
    refine d_val hd hr (k _ _ _ (H.set i hi ⟨rfl, rfl, rfl, by simp [ChangeMaps.setBlock]⟩ (fun j _ hj => ChangeMaps.heap_setBlock_other hb _ (fun e => hj e)) ?_ (fun k hk => .inl hk)))
    have hlk : (lookM l a).getD z = l[j].2 := by rw [hlook]; rfl
    rw [hlk]
    refine ⟨es, clock, j, ChangeMaps.heap_setBlock_same hb _, by rw [hput]; exact he, by rw [hput]; exact hn, hp, hc, ?_, ?_⟩
    · rw [hput]; simp [hlt, hla]
    · simp [hes]
theorem d_entryStore {x y u : Operand} {a : κ} {x0 : ν} {st : Int} (hd : dst = none) (H : Sat w0 G w) (i : Nat) (hi : G[i]? = some (entryC b encK encV l a x0 st)) (hx : ev n f x = .map (some b)) (hy : ev n f y = .int .i64 st) (v : ν) (hu : ev n f u = encV v)
    (k : ∀ w', Sat w0 (G.set i (mapC b encK encV (putM l a v))) w' → K' (fr n f) w') : WO P ⟨dst, .entryStore T x y u, ty, pos, aft, gd⟩ K' Q n f w := by
  obtain ⟨es, clock, j, hb, he, hn, hp, hc, hj, hbj⟩ := H.at i hi
  generalize hl1 : putM l a x0 = l1 at *
  have hlen : es.toList.length = l1.length := by have := congrArg List.length he; simpa using this
  have hlt : j < l1.length := by
    rcases Nat.lt_or_ge j l1.length with h | h
    · exact h
    · rw [List.getElem?_eq_none (by simpa using h)] at hj; cases hj
  have hes : j < es.size := by simpa [← hlen] using hlt
  have hla : l1[j].1 = a := by simpa [hlt] using hj
  have hst : (es[j].born : Int) = st := by simpa [hes] using hbj
  have hfi : es.findIdx? (fun e => (e.born : Int) == st) = some j := by
    rw [Array.findIdx?_eq_some_iff_getElem]
    refine ⟨hes, by simp [hst], fun q hq => ?_⟩
    have := List.pairwise_iff_getElem.1 hp q j (by simp; omega) (by simp; omega) hq
    simp at this
    simp; omega
  have hr : (execOp (ev n f) ⟨dst, .entryStore T x y u, ty, pos, aft, gd⟩).run P w = .ok .skip (ChangeMaps.setBlock w b (.map (es.modify j fun e => { e with val := encV v }) clock)) := by
    simp only [execOp, hx, hy, hu]
    simp [Instr.entryStore, MapKept.run_getObj_map hb, Result.andThen, hfi, MapKept.run_setObj_map _ hb, ChangeMaps.setBlock, asInt, asIntOf]
  refine d_skip hd hr (k _ (H.set i hi ⟨rfl, rfl, rfl, by simp [ChangeMaps.setBlock]⟩ (fun j _ hj => ChangeMaps.heap_setBlock_other hb _ (fun e => hj e)) ?_ (fun k hk => .inl hk)))
  have hi1 : (l1.map (·.1)).idxOf? a = some j := by
    rw [List.idxOf?_eq_some_iff]
    refine ⟨by simpa using hlt, by simpa using hla, fun q hq hqa => ?_⟩
    have hq' : q < (l1.map (·.1)).length := by simp; omega
    have := (List.getElem_inj hn (i := q) (j := j) (h₀ := hq') (h₁ := by simpa using hlt)).1 (by rw [hqa]; simpa using hla.symm)
    omega
  have hmem : a ∈ l1.map (·.1) := by rw [← hla]; exact List.mem_map_of_mem (List.getElem_mem hlt)
  have hfin : putM l a v = l1.set j (a, v) := by
    rw [← putM_putM l a x0 v, hl1]
    unfold putM
    rw [if_pos hmem, map_put_at hn hi1]
  refine ⟨_, _, ChangeMaps.heap_setBlock_same hb _, ?_, ?_, ?_, ?_⟩
  · rw [hfin, Array.toList_modify]
    refine List.ext_getElem (by simp [hlen]) fun q hj1 hj2 => ?_
    have h5 := congrArg (fun m => m[q]?) he
    simp only [List.length_map, List.length_modify] at hj1
    have hjl : q < l1.length := by rw [← hlen]; exact hj1
    simp only [List.getElem?_map, List.getElem?_eq_getElem hj1, List.getElem?_eq_getElem hjl, Option.map_some, Option.some.injEq] at h5
    simp only [List.getElem_map, List.getElem_modify, List.getElem_set]
    by_cases hij : j = q
    · subst hij
      simp only [Prod.mk.injEq, hla, Array.getElem_toList] at h5
      simp [h5.1]
    · simpa [hij] using h5
  · rw [← putM_putM l a x0 v, hl1]; exact nodup_put hn a v
  · have : (es.modify j fun e => { e with val := encV v }).toList.map (·.born) = es.toList.map (·.born) := by
      rw [Array.toList_modify]
      refine List.ext_getElem (by simp) fun q hj1 hj2 => ?_
      simp only [List.getElem_map, List.getElem_modify]
      split <;> simp
    rw [this]; exact hp
  · intro e0 he0
    rw [Array.toList_modify] at he0
    obtain ⟨q, hq, rfl⟩ := List.mem_iff_getElem.1 he0
    rw [List.getElem_modify]
    simp only [List.length_modify] at hq
    have := hc es.toList[q] (List.getElem_mem _)
    split <;> simpa using this
end
end
end Go.Proofs.Ytenihpghfdcpkaa
