/- WHAT IS PROVED: contracts and plain laws of Sort12, StrMap, EntM. Conditions: stated with each. -/
import Derived.Test.YtenihpghfdcpkaaGreatV03
import Derived.Test.YtenihpghfdcpkaaGreatV05
import Derived.Test.YtenihpghfdcpkaaGreatV08
import Derived.Test.YtenihpghfdcpkaaGreatV11
import Derived.Test.YtenihpghfdcpkaaGreatV13
import Derived.Test.YtenihpghfdcpkaaGreatV16
set_option maxHeartbeats 4000000
set_option maxRecDepth 100000
namespace Go.Proofs.YtenihpghfdcpkaaGreat
open Go.RowKit Go.Shelf Go.Sort
instance : Inhabited EntD := ⟨ent0⟩
def cmpEn (x y : EntD) : Int := or2 (sgn3 x.t y.t) (or2 (sgn3 x.cl y.cl) (sgn3 x.sq y.sq))
def ltEn (x y : EntD) : Prop := x.t < y.t ∨ (x.t = y.t ∧ (x.cl < y.cl ∨ (x.cl = y.cl ∧ x.sq < y.sq)))
instance (x y : EntD) : Decidable (ltEn x y) := by unfold ltEn; exact inferInstance
theorem sgn3_cases (a b : Int) : (a < b ∧ sgn3 a b = -1) ∨ (a = b ∧ sgn3 a b = 0) ∨ (a > b ∧ sgn3 a b = 1) := by
 unfold sgn3
 rcases Int.lt_trichotomy a b with h | h | h
 ·exact .inl ⟨h, if_pos h⟩
 ·exact .inr (.inl ⟨h, by rw [if_neg (by omega), if_neg (by omega)]⟩)
 ·exact .inr (.inr ⟨h, by rw [if_neg (by omega), if_pos h]⟩)
theorem ltOf_cmpEn (x y : EntD) : ltOf cmpEn x y = decide (ltEn x y) := by
 unfold ltOf
 refine decide_eq_decide.2 ?_
 unfold cmpEn ltEn
 rcases sgn3_cases x.t y.t with ⟨h1, e1⟩ | ⟨h1, e1⟩ | ⟨h1, e1⟩ <;> rcases sgn3_cases x.cl y.cl with ⟨h2, e2⟩ | ⟨h2, e2⟩ | ⟨h2, e2⟩ <;> rcases sgn3_cases x.sq y.sq with ⟨h3, e3⟩ | ⟨h3, e3⟩ | ⟨h3, e3⟩ <;> rw [e1, e2, e3] <;>
  first | exact iff_of_true (by decide) (by omega) | exact iff_of_false (by decide) (by omega)
theorem cmpEn_swo : SWO (ltOf cmpEn) := by
 refine ⟨fun x => ?_, fun x y z h1 h2 => ?_, fun x y z h1 h2 => ?_⟩
 ·rw [ltOf_cmpEn]; exact decide_eq_false (by unfold ltEn; omega)
 ·rw [ltOf_cmpEn] at *
  have := of_decide_eq_true h1; have := of_decide_eq_true h2
  unfold ltEn at *
  exact decide_eq_true (by omega)
 ·rw [ltOf_cmpEn] at *
  have := of_decide_eq_false h1; have := of_decide_eq_false h2
  unfold ltEn at *
  exact decide_eq_false (by omega)
theorem closE_lays (blk off size : Nat) (w : World) : CmpLays Tryz.prog 60 #[] encEn 35 cmpEn blk off size w := fun m os dk _ x y =>
 (closE_any (sortWorldK encEn 35 w blk off m dk os) x y).mono fun _ _ h => ⟨h.1, h.2.2⟩
theorem sorted_block {α : Type} [Inhabited α] (enc : α → List Value) (k : Nat) (hk : ∀ x, (enc x).length = k) (k0 : 0 < k) (d : Array α) (cur : Array Value) (h : d.size * k ≤ cur.size) : (putCells id 0 (flatK enc k d) cur).size = cur.size ∧ (putCells id 0 (flatK enc k d) cur).toList.take (d.size * k) = d.toList.flatMap enc := by
 refine ⟨by simp [putCells], ?_⟩
 refine List.ext_getElem? fun t => ?_
 rw [List.getElem?_take]
 split
 ·rename_i ht
  have hj : t / k < d.size := (Nat.div_lt_iff_lt_mul k0).2 ht
  have hm : t % k < k := Nat.mod_lt _ k0
  have e : t = t / k * k + t % k := by rw [Nat.mul_comm]; exact (Nat.div_add_mod t k).symm
  have hr : (d.toList.flatMap enc)[t]? = (enc d[t / k]!)[t % k]? := by
   conv => lhs; rw [e]
   exact flat_get enc k hk d.toList (t / k) (t % k) d[t / k]! (by rw [getElem!_pos d _ hj]; simp [hj]) hm
  rw [hr, Array.getElem?_toList]
  have ht' : t < (flatK enc k d).size := by rw [size_flatK]; exact ht
  have hl : (putCells id 0 (flatK enc k d) cur)[t]? = some (flatK enc k d)[t]! := by
   unfold putCells
   rw [Array.getElem?_mapIdx, Array.getElem?_eq_getElem (by omega)]
   simp only [Option.map_some]
   rw [if_pos ⟨Nat.zero_le _, by omega⟩]; rfl
  rw [hl, get_flatK enc k d t ht, getElem!_pos (enc d[t / k]!) _ (by rw [hk]; exact hm), List.getElem?_eq_getElem (by rw [hk]; exact hm)]
 ·rename_i ht
  rw [List.getElem?_eq_none]
  rw [flat_len enc k hk]; simp; omega
theorem sortE_any (w : World) (g c : Nat) (D : List EntD) (hv : (rowC 63 35 (.slice (some ⟨g, 0, none⟩) D.length c) D.length (D.flatMap encEn)).ok w) (h12 : D.length ≤ 12) :
  Calls Tryz.prog 59 #[.slice (some ⟨g, 0, none⟩) D.length c, .func (.func 60) #[] #[]] w fun e w' => e = .returned (.tuple #[]) ∧ ∃ D' : List EntD, D'.Perm D ∧ (D'.Pairwise fun a b => ¬ ltEn b a) ∧ (rowC 63 35 (.slice (some ⟨g, 0, none⟩) D.length c) D.length (D'.flatMap encEn)).ok w' ∧ Upd [g] w w' := by
 obtain ⟨A, rfl⟩ : ∃ A : List EntD, A = D := ⟨D, rfl⟩
 have hg : g < w.heap.size := (rowC _ _ _ _ _).lt hv g rfl
 obtain ⟨cur, hb, hnc, hcm, hcs, htk⟩ : ∃ cur, w.heap[g]? = some (.cells cur 63 (0, 0)) ∧ A.length ≤ c ∧ c ≤ maxLen ∧ cur.size = c * 35 ∧ cur.toList.take (A.length * 35) = A.flatMap encEn := by
  rcases hv.2 with ⟨h, _⟩ | ⟨g', c', cur, h, _, h1, h2, h3, h4, h5⟩
  ·cases h
  ·simp only [Value.slice.injEq, Option.some.injEq, Addr.mk.injEq] at h
   obtain ⟨⟨rfl, _⟩, _, rfl⟩ := h
   exact ⟨cur, h1, h2, h3, h4, h5⟩
 have hH : HoldsK encEn 35 w g 0 A.toArray := fun j hj => by
  have hj' : j < A.length * 35 := by simpa using hj
  have hq : j / 35 < A.length := (Nat.div_lt_iff_lt_mul (by omega)).2 hj'
  refine ⟨?_, ?_⟩
  ·rw [get_flatK _ _ _ _ (by simpa using hj')]
   have hx : A.toArray[j / 35]! = A[j / 35] := by rw [getElem!_pos A.toArray (j / 35) (by simpa using hq)]; simp
   rw [hx]
   refine rows_cell (enc := encEn) hv rfl encEn_len (i := j / 35) (x := A[j / 35]) (List.getElem?_eq_getElem hq) (j % 35) (by have := Nat.mod_lt j (show 0 < 35 by omega); simp [Nat.blt_eq, this]) (by omega) ?_
   have hm : j % 35 < (encEn A[j / 35]).length := by rw [encEn_len]; omega
   rw [List.getElem?_eq_getElem hm, getElem!_pos (encEn A[j / 35]) _ hm]; rfl
  ·unfold World.frozen?
   rw [hb]; simp
 have hbl : ∀ (n : Nat) (W : World), n ≤ 12 → Calls Tryz.prog (sortL_ren.f 15) #[.int .u64 n] W fun e w' => (∃ l : Int, e = .returned (.int .i64 l)) ∧ w' = W := fun n W hn =>
  (Any.bits_Len bitsL n W (by omega) (by omega)).mono fun _ _ ⟨he, hw⟩ => ⟨⟨_, he⟩, hw⟩
 have h := AnyQ.slices_SortFunc_small_sorted (P := Tryz.prog) sortL 35 Tryz.isAgg63 Tryz.sizeOf63 encEn encEn_len (fun x v hv => List.all_eq_true.1 (encEn_one x) v hv) cmpEn 60 #[] cmpEn_swo g 0 c A.toArray w (enters_of Tryz.func60 (by kernel_rfl) rfl) (closE_lays g 0 _ w) hH hg (by simpa using h12) hbl
 rw [show A.toArray.size = A.length from List.size_toArray ..] at h
 refine h.mono fun e w' ⟨he, d', n, os, hp, hs, hw⟩ => ?_
 have hsz : d'.size = A.length := by simpa using hp.1
 have hp2 : d'.toList.Perm A := by
  have := hp.2.2
  have e1 : d'.extract 0 A.length = d' := by rw [← hsz]; exact Array.extract_size
  have e2 : A.toArray.extract 0 A.length = A.toArray := Array.extract_size (xs := A.toArray)
  rw [e1, e2] at this
  exact this
 refine ⟨he, d'.toList, hp2, ?_, ?_, ?_⟩
 ·rw [List.pairwise_iff_getElem]
  intro i j hi hj hij
  have hi' : i < d'.size := by simpa using hi
  have hj' : j < d'.size := by simpa using hj
  have := hs i j (Nat.zero_le _) hij (by omega)
  rw [getElem!_pos d' i hi', getElem!_pos d' j hj'] at this
  rw [ltOf_cmpEn] at this
  have h5 := of_decide_eq_false this
  rwa [Array.getElem_toList, Array.getElem_toList]
 ·obtain ⟨q1, q2⟩ := sorted_block encEn 35 encEn_len (by omega) d' cur (by rw [hsz, hcs]; exact Nat.mul_le_mul_right _ hnc)
  refine ⟨by rw [flat_len encEn 35 encEn_len]; simp [hsz], .inr ⟨g, c, putCells id 0 (flatK encEn 35 d') cur, rfl, Nat.zero_le _, ?_, hnc, hcm, by rw [q1, hcs], by rw [← hsz]; exact q2⟩⟩
  rw [hw]
  unfold sortWorldK putRowK putRow mapBlock grow Sort.ahead
  simp only [Array.getElem?_append, Array.size_modify, hg, if_true, Array.getElem?_modify]
  rw [hb]; rfl
 ·subst hw
  refine ⟨rfl, rfl, rfl, size_sortWorldK_c _ _ _ _ _ _ _ _, fun k hk hne => ?_⟩
  have hne : g ≠ k := fun e => hne (by simp [e])
  unfold sortWorldK putRowK putRow mapBlock grow Sort.ahead
  simp only [Array.getElem?_append, Array.size_modify, hk, if_true, Array.getElem?_modify, if_neg hne]
theorem sortRow_any (w : World) (a : Option Addr) (c : Nat) (D : List EntD) (hv : (sepC [rowC 63 35 (.slice a D.length c) D.length (D.flatMap encEn)]).ok w) (h12 : D.length ≤ 12) :
  Calls Tryz.prog 59 #[.slice a D.length c, .func (.func 60) #[] #[]] w fun e w' => ∃ D' : List EntD, e = .returned (.tuple #[]) ∧ D'.Perm D ∧ (D'.Pairwise fun a b => ¬ ltEn b a) ∧ Sat w [rowC 63 35 (.slice a D'.length c) D'.length (D'.flatMap encEn), restC w (sepC [rowC 63 35 (.slice a D.length c) D.length (D.flatMap encEn)]).fp] w' := by
 have H := Sat.start _ hv
 cases hD : D with
 | nil =>
  subst hD
  refine (sort0_any a c (.func (.func 60) #[] #[]) w).mono fun e w' ⟨he, hw⟩ => ?_
  subst hw
  exact ⟨[], he, List.Perm.refl _, List.Pairwise.nil, H⟩
 | cons x D0 =>
  rw [← hD]
  have hv0 := hv.1 _ (List.mem_singleton.2 rfl)
  obtain ⟨g, c', hs⟩ := row_shape hv0 (by rw [hD]; simp)
  simp only [Value.slice.injEq] at hs
  obtain ⟨rfl, _, rfl⟩ := hs
  refine (sortE_any w g c D hv0 h12).mono fun e w' ⟨he, D', hp, hs, hok, hu⟩ => ?_
  have hl := hp.length_eq
  refine ⟨D', he, hp, hs, ?_⟩
  rw [hl]
  exact H.setU hu 0 rfl (by rintro b' hb; rw [List.mem_singleton.1 hb]; rfl) hok (fun b hb => .inl hb)
end Go.Proofs.YtenihpghfdcpkaaGreat
namespace Go.Proofs.YtenihpghfdcpkaaGreat
open Go.RowKit
theorem map_erase {α β : Type} (f : α → β) : ∀ (l : List α) (i : Nat), (l.eraseIdx i).map f = (l.map f).eraseIdx i
 | [], _ => rfl
 | _ :: _, 0 => rfl
 | x :: l, i + 1 => by simp [map_erase f l i]
def delM {κ ν : Type} [DecidableEq κ] (l : List (κ × ν)) (a : κ) : List (κ × ν) := match (l.map (·.1)).idxOf? a with | none => l | some i => l.eraseIdx i
section
variable {κ ν : Type} [DecidableEq κ] {encK : κ → Value} {encV : ν → Value} {P : Program} {k : TypeId} {w : World} {b : Nat} {l : List (κ × ν)}
theorem MapAt.delete (K : KeyTy P k encK) {t e ty : TypeId} (ht : P.underlying t = some (.map k e)) (h : MapAt w b encK encV l) (a : κ) :
  ∃ w', (Builtin.delete_ #[t, k] ty #[.map (some b), encK a]).run P w = .ok (.tuple #[]) w' ∧ MapAt w' b encK encV (delM l a) ∧ Upd [b] w w' := by
 obtain ⟨es, clock, hb, he, hn, hp, hc⟩ := h
 have hf := K.find w a es.toList _ (MapAt.keys he)
 have upd : ∀ o, Upd [b] w (ChangeMaps.setBlock w b o) := fun o => ⟨rfl, rfl, rfl, by simp [ChangeMaps.setBlock], fun j _ hj => ChangeMaps.heap_setBlock_other hb _ (by simpa using hj)⟩
 have hlen : es.toList.length = l.length := by have := congrArg List.length he; simpa using this
 unfold delM
 cases hi : (l.map (·.1)).idxOf? a with
 | none =>
  rw [hi] at hf
  refine ⟨ChangeMaps.setBlock w b (.map es clock), ?_, ⟨_, _, ChangeMaps.heap_setBlock_same hb _, he, hn, hp, hc⟩, upd _⟩
  simp [Builtin.delete_, run_underlying ht, MapKept.run_getObj_map hb, Result.andThen, K.check, hf, MapKept.run_setObj_map _ hb, ChangeMaps.setBlock]
 | some i =>
  rw [hi] at hf
  obtain ⟨h1, h2, _⟩ := List.idxOf?_eq_some_iff.1 hi
  have hlt : i < l.length := by simpa using h1
  have hli : i < es.toList.length := by omega
  simp only [Option.bind_some, List.getElem?_eq_getElem hli, Option.map_some] at hf
  have hes : (es.eraseIdxIfInBounds i).toList = es.toList.eraseIdx i := by
   rw [Array.eraseIdxIfInBounds_eq, dif_pos (by simpa using hli), Array.toList_eraseIdx]
  refine ⟨ChangeMaps.setBlock w b (.map (es.eraseIdxIfInBounds i) clock), ?_, ⟨_, _, ChangeMaps.heap_setBlock_same hb _, ?_, ?_, ?_, ?_⟩, upd _⟩
  ·simp [Builtin.delete_, run_underlying ht, MapKept.run_getObj_map hb, Result.andThen, K.check, hf, MapKept.run_setObj_map _ hb, ChangeMaps.setBlock]
  ·rw [hes, map_erase, map_erase, he]
  ·rw [map_erase]; exact hn.sublist (List.eraseIdx_sublist _ _)
  ·rw [hes, map_erase]; exact hp.sublist (List.eraseIdx_sublist _ _)
  ·intro e0 he0
   rw [hes] at he0
   exact hc e0 (List.mem_of_mem_eraseIdx he0)
end
section
variable {P : Program} {Q : Exit → Act → World → Prop} {n : Nat} {f : Nat → Value} {w0 w : World} {G : List Ck} {dst : Option Tmp} {ty : TypeId} {pos : String} {aft : Array Edge} {gd : Option (Nat × Bool)} {K' : Act → World → Prop}
theorem d_delete0 {κ ν : Type} [DecidableEq κ] {encK : κ → Value} {encV : ν → Value} {T kt et : TypeId} {b : Nat} {l : List (κ × ν)} {x y : Operand} (hd : dst = none) (H : Sat w0 G w) (i : Nat) (hi : G[i]? = some (mapC b encK encV l)) (K : KeyTy P kt encK) (hT : P.underlying T = some (.map kt et)) (hx : ev n f x = .map (some b)) (a : κ) (hy : ev n f y = encK a)
  (k : ∀ w', Sat w0 (G.set i (mapC b encK encV (delM l a))) w' → K' (fr n f) w') : WO P ⟨dst, .call { callee := .builtin .delete, args := #[x, y], argTypes := #[T, kt] }, ty, pos, aft, gd⟩ K' Q n f w := by
 obtain ⟨w', h1, h2, h3⟩ := (H.at i hi).delete (ty := ty) K hT a
 have hr : (execOp (ev n f) ⟨dst, .call { callee := .builtin .delete, args := #[x, y], argTypes := #[T, kt] }, ty, pos, aft, gd⟩).run P w = .ok (.value (.tuple #[])) w' := by
  simp [execOp, resolve, invoke, builtin, hx, hy, h1, Result.andThen]
 refine ⟨?_⟩
 unfold Oper.wp
 rw [fr_eval, hr]
 simp only [Oper.upon, hd, fr_putn]
 exact k w' (H.setU h3 i hi (by rintro b' hb; exact List.mem_singleton.1 hb) h2 (fun b hb => .inl hb))
end
def SmallN (x : NmD) : Prop := (0 ≤ x.cl ∧ x.cl < 3) ∧ 1 ≤ x.sq ∧ x.sq ≤ 4
def CeSm (c : CeR) : Prop := SmallN ⟨c.x.cl, c.x.seq⟩ ∧ c.S.length ≤ 12 ∧ StsOk c.S
noncomputable def entOf (c : CeR) : EntD := ⟨c.x.cl, c.x.seq, c.x.h, timeD c.S⟩
def nmOf (e : EntD) : NmD := ⟨e.cl, e.sq⟩
def aheadE (a b : EntD) : Bool := decide (a.t < b.t) || (decide (a.t = b.t) && lessB a.h b.h)
abbrev EMap := List (NmD × EntD)
def skipE (last tm : Int) (lg : NmD → Bool) (e : EntD) : Bool := decide (e.t ≤ last) || decide (e.t > tm) || lg (nmOf e)
def stepE (last tm : Int) (lg : NmD → Bool) (M : EMap) (e : EntD) : EMap :=
 if skipE last tm lg e = true then M else match lookM M (nmOf e) with
  | none => putM M (nmOf e) e
  | some was => if aheadE e was = true then putM M (nmOf e) e else M
noncomputable def runE (last tm : Int) (lg : NmD → Bool) (L : List CeR) : EMap := L.foldl (fun M c => stepE last tm lg M (entOf c)) []
section
variable {last tm : Int} {lg : NmD → Bool} {M : EMap} {e : EntD} {L : List CeR} {c : CeR}
theorem runE_app (L : List CeR) (c : CeR) : runE last tm lg (L ++ [c]) = stepE last tm lg (runE last tm lg L) (entOf c) := by simp [runE, List.foldl_append]
theorem stepE_skip (h : skipE last tm lg e = true) : stepE last tm lg M e = M := by unfold stepE; rw [if_pos h]
theorem stepE_new (h : skipE last tm lg e = false) (h2 : lookM M (nmOf e) = none) : stepE last tm lg M e = putM M (nmOf e) e := by unfold stepE; rw [if_neg (by rw [h]; decide), h2]
theorem stepE_old {was : EntD} (h : skipE last tm lg e = false) (h2 : lookM M (nmOf e) = some was) : stepE last tm lg M e = if aheadE e was = true then putM M (nmOf e) e else M := by unfold stepE; rw [if_neg (by rw [h]; decide), h2]
structure EOk (M : EMap) : Prop where
 nd : (M.map (·.1)).Nodup
 nm : ∀ x ∈ M, x.1 = nmOf x.2
 sm : ∀ x ∈ M, SmallN x.1
end
section
variable {κ ν : Type} [DecidableEq κ] {l : List (κ × ν)} {a : κ} {v : ν}
theorem mem_putE {y : κ × ν} (h : y ∈ putM l a v) : y = (a, v) ∨ y ∈ l := by
 unfold putM at h
 split at h
 ·obtain ⟨z, hz, e⟩ := List.mem_map.1 h
  split at e
  ·exact .inl e.symm
  ·exact .inr (e ▸ hz)
 ·rcases List.mem_append.1 h with h | h
  ·exact .inr h
  ·exact .inl (List.mem_singleton.1 h)
theorem mem_lookE {x : ν} (h : lookM l a = some x) : (a, x) ∈ l := by
 unfold lookM at h
 obtain ⟨y, hy, rfl⟩ := Option.map_eq_some_iff.1 h
 have h1 := List.find?_some hy
 have h2 := List.mem_of_find?_eq_some hy
 have h3 : y.1 = a := by simpa using h1
 rw [← h3]; exact h2
theorem look_noneE : lookM l a = none ↔ a ∉ l.map (·.1) := by
 unfold lookM
 rw [Option.map_eq_none_iff, List.find?_eq_none]
 constructor
 ·intro h hm
  obtain ⟨y, hy, rfl⟩ := List.mem_map.1 hm
  exact h y hy (by simp)
 ·intro h y hy he
  have h3 : y.1 = a := by simpa using he
  exact h (h3 ▸ List.mem_map_of_mem hy)
theorem keys_putE : (putM l a v).map (·.1) = if a ∈ l.map (·.1) then l.map (·.1) else l.map (·.1) ++ [a] := by
 unfold putM
 split
 ·rw [List.map_map]
  refine List.map_congr_left fun y _ => ?_
  show (if y.1 = a then (a, v) else y).1 = y.1
  split
  ·rename_i e; exact e.symm
  ·rfl
 ·simp
end
theorem nodup_below : ∀ (n : Nat) (l : List Nat), l.Nodup → (∀ x ∈ l, x < n) → l.length ≤ n
 | 0, l, _, h => by
  cases l with
  | nil => simp
  | cons x l => exact absurd (h x (by simp)) (Nat.not_lt_zero _)
 | n + 1, l, hn, h => by
  have ih := nodup_below n (l.erase n) (hn.erase n) fun x hx => by
   have h1 := (List.Nodup.mem_erase_iff hn).1 hx
   have h2 := h x h1.2
   have := h1.1
   omega
  by_cases hm : n ∈ l
  ·have := List.length_erase_of_mem hm; omega
  ·rw [List.erase_of_not_mem hm] at ih; omega
section
variable {last tm : Int} {lg : NmD → Bool} {M : EMap} {e : EntD} {L : List CeR} {c : CeR}
theorem EOk.nil : EOk [] := ⟨List.nodup_nil, by simp, by simp⟩
theorem EOk.put (h : EOk M) (hs : SmallN (nmOf e)) : EOk (putM M (nmOf e) e) := by
 refine ⟨?_, fun x hx => ?_, fun x hx => ?_⟩
 ·rw [keys_putE]
  split
  ·exact h.nd
  ·rename_i q
   rw [List.nodup_append]
   exact ⟨h.nd, by simp, fun a ha b hb e => by rw [List.mem_singleton.1 hb] at e; exact q (e ▸ ha)⟩
 ·rcases mem_putE hx with rfl | hx
  ·rfl
  ·exact h.nm x hx
 ·rcases mem_putE hx with rfl | hx
  ·exact hs
  ·exact h.sm x hx
theorem EOk.step (h : EOk M) (hs : SmallN (nmOf e)) : EOk (stepE last tm lg M e) := by
 unfold stepE
 split
 ·exact h
 ·split
  ·exact h.put hs
  ·split
   ·exact h.put hs
   ·exact h
theorem runE_ok (h : ∀ c ∈ L, CeSm c) : EOk (runE last tm lg L) := by
 have key : ∀ (L : List CeR) (M : EMap), EOk M → (∀ c ∈ L, CeSm c) → EOk (L.foldl (fun M c => stepE last tm lg M (entOf c)) M) := by
  intro L
  induction L with
  | nil => intro M hM _; exact hM
  | cons c L ih => intro M hM hc; exact ih _ (hM.step (hc c (by simp)).1) fun d hd => hc d (by simp [hd])
 exact key L [] EOk.nil h
theorem EOk.len (h : EOk M) : M.length ≤ 12 := by
 have hm := nodup_below 12 ((M.map (·.1)).map fun x => (x.cl * 4 + (x.sq - 1)).toNat) ?_ ?_
 ·simpa using hm
 ·rw [List.Nodup, List.pairwise_map]
  refine List.Pairwise.imp_of_mem ?_ h.nd
  intro a b ha hb hne e
  obtain ⟨x, hx, rfl⟩ := List.mem_map.1 ha
  obtain ⟨y, hy, rfl⟩ := List.mem_map.1 hb
  have hx' := h.sm x hx
  have hy' := h.sm y hy
  unfold SmallN at hx' hy'
  apply hne
  have h1 : x.1.cl = y.1.cl := by omega
  have h2 : x.1.sq = y.1.sq := by omega
  cases hx1 : x.1; cases hy1 : y.1
  simp_all
 ·intro z hz
  obtain ⟨a, ha, rfl⟩ := List.mem_map.1 hz
  obtain ⟨x, hx, rfl⟩ := List.mem_map.1 ha
  have := h.sm x hx
  unfold SmallN at this
  omega
theorem EOk.inj (h : EOk M) : ∀ a ∈ M.map (·.2), ∀ b ∈ M.map (·.2), nmOf a = nmOf b → a = b := fun a ha b hb e => by
 obtain ⟨x, hx, rfl⟩ := List.mem_map.1 ha
 obtain ⟨y, hy, rfl⟩ := List.mem_map.1 hb
 have e2 : x.1 = y.1 := by rw [h.nm x hx, h.nm y hy, e]
 obtain ⟨i, hi, hxi⟩ := List.mem_iff_getElem.1 hx
 obtain ⟨j, hj, hyj⟩ := List.mem_iff_getElem.1 hy
 have key : i = j := by
  have hp := List.pairwise_iff_getElem.1 h.nd
  rcases Nat.lt_trichotomy i j with q | q | q
  ·exact absurd (by rw [List.getElem_map, List.getElem_map, hxi, hyj, e2]) (hp i j (by simpa using hi) (by simpa using hj) q)
  ·exact q
  ·exact absurd (by rw [List.getElem_map, List.getElem_map, hxi, hyj, e2]) (hp j i (by simpa using hj) (by simpa using hi) q)
 subst key
 rw [← hxi, ← hyj]
end
section
variable {last tm : Int} {lg : NmD → Bool} {M M' : EMap} {A C : List CeR} {P : List PrR} {i k : Nat} {w : World}
theorem take_succ_C (h : k < C.length) : C.take (k + 1) = C.take k ++ [C.getD k ce0] := by
 rw [List.take_add_one, List.getElem?_eq_getElem h, List.getD_eq_getElem?_getD, List.getElem?_eq_getElem h]; rfl
theorem runE_more (hM : M = runE last tm lg (A ++ C.take k)) (hk : k < C.length) (hs : stepE last tm lg M (entOf (C.getD k ce0)) = M') : M' = runE last tm lg (A ++ C.take (k + 1)) := by
 rw [take_succ_C hk, ← List.append_assoc, runE_app, ← hM, hs]
theorem pre_succ (h : i < P.length) : (P.take (i + 1)).flatMap (·.C) = (P.take i).flatMap (·.C) ++ (P.getD i pr0).C := by
 have e : P.take (i + 1) = P.take i ++ [P.getD i pr0] := by
  rw [List.take_add_one, List.getElem?_eq_getElem h, List.getD_eq_getElem?_getD, List.getElem?_eq_getElem h]; rfl
 rw [e, List.flatMap_append]; simp only [List.flatMap_cons, List.flatMap_nil, List.append_nil]
theorem getD_memC (h : k < C.length) : C.getD k ce0 ∈ C := by
 rw [List.getD_eq_getElem?_getD, List.getElem?_eq_getElem h]; exact List.getElem_mem h
theorem getD_memP (h : i < P.length) : P.getD i pr0 ∈ P := by
 rw [List.getD_eq_getElem?_getD, List.getElem?_eq_getElem h]; exact List.getElem_mem h
theorem ceOk_at (hPo : ∀ i, i < P.length → PrOk w (P.getD i pr0)) (hi : i < P.length) (hk : k < (P.getD i pr0).C.length) : CeOk w ((P.getD i pr0).C.getD k ce0) := (hPo i hi).2 _ (getD_memC hk)
def PSm (P : List PrR) : Prop := ∀ p ∈ P, ∀ c ∈ p.C, CeSm c
theorem PSm.at (h : PSm P) (hi : i < P.length) (hk : k < (P.getD i pr0).C.length) : CeSm ((P.getD i pr0).C.getD k ce0) := h _ (getD_memP hi) _ (getD_memC hk)
theorem PSm.all (h : PSm P) : ∀ c ∈ P.flatMap (·.C), CeSm c := fun c hc => by
 obtain ⟨p, hp, hc⟩ := List.mem_flatMap.1 hc
 exact h p hp c hc
def lgM (LM : List (NmD × Bool)) (n : NmD) : Bool := (lookM LM n).getD false
variable {LM : List (NmD × Bool)} {lg : NmD → Bool} {c : CeR} {v : EntD}
theorem skip1 (h : decide (timeD c.S ≤ last) = true) : skipE last tm lg (entOf c) = true := by
 show (decide (timeD c.S ≤ last) || decide (timeD c.S > tm) || lg ⟨c.x.cl, c.x.seq⟩) = true
 rw [h]; rfl
theorem skip2 (h : decide (timeD c.S > tm) = true) : skipE last tm lg (entOf c) = true := by
 show (decide (timeD c.S ≤ last) || decide (timeD c.S > tm) || lg ⟨c.x.cl, c.x.seq⟩) = true
 rw [h]; simp
theorem skip3 (hlg : lg = lgM LM) (h : (lookM LM (⟨c.x.cl, c.x.seq⟩ : NmD)).getD false = true) : skipE last tm lg (entOf c) = true := by
 show (decide (timeD c.S ≤ last) || decide (timeD c.S > tm) || lg ⟨c.x.cl, c.x.seq⟩) = true
 rw [show lg ⟨c.x.cl, c.x.seq⟩ = true from (by rw [hlg]; exact h)]; simp
theorem skip0 (hlg : lg = lgM LM) (h1 : decide (timeD c.S ≤ last) = false) (h2 : decide (timeD c.S > tm) = false) (h : (lookM LM (⟨c.x.cl, c.x.seq⟩ : NmD)).getD false = false) : skipE last tm lg (entOf c) = false := by
 show (decide (timeD c.S ≤ last) || decide (timeD c.S > tm) || lg ⟨c.x.cl, c.x.seq⟩) = false
 rw [show lg ⟨c.x.cl, c.x.seq⟩ = false from (by rw [hlg]; exact h), h1, h2]; rfl
theorem some_of (h : (lookM M (⟨c.x.cl, c.x.seq⟩ : NmD)).isSome = true) : ∃ v, lookM M (⟨c.x.cl, c.x.seq⟩ : NmD) = some v := Option.isSome_iff_exists.1 h
theorem none_of (h : (lookM M (⟨c.x.cl, c.x.seq⟩ : NmD)).isSome = false) : lookM M (nmOf (entOf c)) = none := by
 show lookM M (⟨c.x.cl, c.x.seq⟩ : NmD) = none
 cases hq : lookM M (⟨c.x.cl, c.x.seq⟩ : NmD) with
 | none => rfl
 | some v => rw [hq] at h; simp at h
theorem step_yes (hs : skipE last tm lg (entOf c) = false) (h : (lookM M (⟨c.x.cl, c.x.seq⟩ : NmD)).isSome = true) (ha : aheadE (entOf c) ((lookM M (⟨c.x.cl, c.x.seq⟩ : NmD)).getD ent0) = true) : stepE last tm lg M (entOf c) = putM M (nmOf (entOf c)) (entOf c) := by
 obtain ⟨v, hv⟩ := some_of h
 rw [hv] at ha; change aheadE (entOf c) v = _ at ha
 rw [stepE_old (was := v) hs hv, if_pos ha]
theorem step_no (hs : skipE last tm lg (entOf c) = false) (h : (lookM M (⟨c.x.cl, c.x.seq⟩ : NmD)).isSome = true) (ha : aheadE (entOf c) ((lookM M (⟨c.x.cl, c.x.seq⟩ : NmD)).getD ent0) = false) : stepE last tm lg M (entOf c) = M := by
 obtain ⟨v, hv⟩ := some_of h
 rw [hv] at ha; change aheadE (entOf c) v = _ at ha
 rw [stepE_old (was := v) hs hv, if_neg (by rw [show aheadE (entOf c) v = false from ha]; decide)]
end
end Go.Proofs.YtenihpghfdcpkaaGreat
