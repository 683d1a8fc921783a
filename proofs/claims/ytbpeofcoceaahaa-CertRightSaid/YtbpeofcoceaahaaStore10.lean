/- WHAT IS PROVED: stamps in memory: a list that lies somewhere as a piece; a store into a row of the call's own. Conditions: stated with each. -/
import Derived.Test.YtbpeofcoceaahaaWhole10M
import Derived.Test.YtbpeofcoceaahaaRowSt
import Derived.Test.YtbpeofcoceaahaaBits
namespace Go.Proofs.Ytbpeofcoceaahaa
open Go.RowKit
/-- stamps that lie somewhere, as a piece -/
def stsC (v : Value) (A : List StampD) : Ck where
  fp b := 0 < A.length ∧ v.ownBlock = some b
  ok w := ListAt encSt 38 w v A
  stay {w w'} h hb := by
    rcases h with h | ⟨h0, b, off, cap, rfl, hn, h⟩
    · exact .inl h
    · refine .inr ⟨h0, b, off, cap, rfl, hn, fun i hi j u hj => ?_⟩
      have := h i hi j u hj
      rw [Addr.add_lit] at this ⊢
      unfold World.cell? at this ⊢
      rw [hb b ⟨h0, rfl⟩]; exact this
  lt {w} h b hb := by
    obtain ⟨h0, hb⟩ := hb
    obtain ⟨b', o, c, rfl, hc⟩ := ListAt.cells encSt_len (by decide) h h0
    simp only [Value.ownBlock, Option.some.injEq] at hb
    subst hb
    have hl : 0 < (A.flatMap encSt).length := by rw [flat_len encSt 38 encSt_len]; omega
    have := hc 0 _ (List.getElem?_eq_getElem hl)
    exact World.block_lt_of_cell? w _ this
theorem stsC_row {e n c : Nat} {a : Option Addr} {A : List StampD} {w : World} (h : (rowC e 38 (.slice a n c) n (A.flatMap encSt)).ok w) : (stsC (.slice a n c) A).ok w := ListAt.row encSt_len (by decide) h
theorem stsC_run {g o c i : Nat} {w : World} {T : List StampD} (h : (stsC (.slice (some ⟨g, o, none⟩) T.length c) T).ok w) (hi : i < T.length) : RunAt w ⟨g, o + i * 38, none⟩ (encSt (T.getD i stamp0)) := by
  obtain ⟨b, o', cap, e, hr⟩ := SliceOf.atD h stamp0 hi
  simp only [Value.slice.injEq, Option.some.injEq, Addr.mk.injEq] at e
  obtain ⟨⟨rfl, rfl, _⟩, _, _⟩ := e
  exact hr
theorem wrap_i64_le (z : Int) : IntKind.i64.wrap z ≤ 9223372036854775807 := by
  simp [IntKind.wrap, IntKind.signed, IntKind.bits]; split <;> omega
/-- a hash whose fourth byte has another last bit -/
def flipH (h : Hash) : Hash := ⟨(List.range 32).map fun i => if i = 3 then UInt8.ofNat (bXor .u8 ((h.l.getD 3 0).toNat : Int) 1).toNat else h.l.getD i 0, by simp⟩
theorem flip_byte (z : Int) (h : 0 ≤ z ∧ z < 256) : byteV (UInt8.ofNat z.toNat) = Value.int .u8 z := by
  unfold byteV
  rw [UInt8.toNat_ofNat']
  congr 1
  omega
theorem hc_flip (h : Hash) : hc (flipH h) = (List.range 32).map fun i => if i = 3 then Value.int .u8 (bXor .u8 ((h.l.getD 3 0).toNat : Int) 1) else byteV (h.l.getD i 0) := by
  unfold hc
  refine List.map_congr_left fun i hi => ?_
  have hi := List.mem_range.1 hi
  show byteV ((((List.range 32).map fun i => if i = 3 then UInt8.ofNat (bXor .u8 ((h.l.getD 3 0).toNat : Int) 1).toNat else h.l.getD i 0)).getD i 0) = _
  rw [List.getD_eq_getElem?_getD, List.getElem?_map, List.getElem?_range hi]
  simp only [Option.map_some, Option.getD_some]
  split
  · exact flip_byte _ (wrap_u8_rng _)
  · rfl
theorem slice_addrS {a a' : Option Addr} {n c n' c' : Nat} (h : Value.slice a n c = .slice a' n' c') : a = a' := by simp only [Value.slice.injEq] at h; exact h.1
theorem list_offS {α : Type} {enc : α → List Value} {sz : Nat} (hs : ∀ x, (enc x).length = sz) (h0 : 0 < sz) {W w : World} {G : List Ck} (H : Sat W G w) (is : List Nat) (j : Nat) {B : List Ck} (hB : (is.filterMap fun i => G[i]?) = B) (hj : G[j]? = some (restC W fun _ => False)) (hne : is.all (fun i => !Nat.beq i j) = true) {va : Option Addr} {n vc : Nat} {ls : List α} (hv : ListAt enc sz W (.slice va n vc) ls) : 0 < ls.length → ∀ a, va = some a → ¬ (sepC B).fp a.block := by
  intro h1 a ha hfp
  obtain ⟨vb, vo, vc', hva, hvs⟩ := hv.cells hs h0 h1
  have h2 := slice_addrS hva
  rw [h2] at ha
  obtain rfl := (Option.some.inj ha)
  have hl : 0 < (ls.flatMap enc).length := by rw [flat_len enc sz hs]; exact Nat.mul_pos h1 h0
  have hc := hvs 0 _ (List.getElem?_eq_getElem hl)
  rw [Addr.add_lit] at hc
  have hlt := World.block_lt_of_cell? W _ hc
  subst hB
  obtain ⟨A, hA, hAf⟩ := hfp
  obtain ⟨i, hi, he⟩ := List.mem_filterMap.1 hA
  have hij : Nat.beq i j = false := by simpa using List.all_eq_true.1 hne i hi
  exact H.apart i j he hj hij _ hAf ⟨hlt, fun h => h⟩
section
variable {P : Program} {ops : Array Oper} {Q : Exit → Act → World → Prop} {md : Region.Mode} {S : World → Prop} {B : Nat → Bool}
/-- as wpAnyK_first, where the operations of B wait for number i by way of others -/
theorem wpAnyK_firstC {i : Nat} {oi : Oper} {v : Value} (C : Nat → Bool) (hi : ops[i]? = some oi) (hsel : ∀ (j : Nat) (o : Oper) cs b, ops[j]? = some o → o.op ≠ .select cs b)
    (hQ : ∀ c a w, Q (.panic c) (a.put oi.dst v) w → Q (.panic c) a w) (hiB : B i = false) (hB : ∀ j oj, (B j = true ∨ C j = true ∧ j ≠ i) → ops[j]? = some oj → ∃ e ∈ oj.after, Region.binds md e = true ∧ C e.on = true) :
    ∀ (fuel : Nat) (listed : Array Bool) (a : Act) (w : World), (∀ j, C j = true → listed.getD j true = false) →
      (∀ j oj, ops[j]? = some oj → j ≠ i → listed.getD j true = false → (∀ e ∈ oj.after, Region.binds md e = true → e.on ≠ i) → oi.apart ops oj = true) →
      i ∈ Region.ready md ops listed → YieldsIf P ops S oi v a → S w →
      wpAnyK P md ops Q S B fuel (listed.setIfInBounds i true) (a.put oi.dst v) w → wpAnyK P md ops Q S B (fuel + 1) listed a w := by
  intro fuel
  have key : ∀ (listed : Array Bool) (j : Nat), (∀ j, C j = true → listed.getD j true = false) → j ∈ Region.ready md ops listed → ¬ (B j = true ∨ C j = true ∧ j ≠ i) := fun listed j hC hj hb => by
    obtain ⟨_, oj, hoj, hall⟩ := mem_ready.1 hj
    obtain ⟨e, he, hbd, hon⟩ := hB j oj hb hoj
    have h1 := hall e he hbd
    have h2 := hC _ hon
    rw [Array.getD_eq_getD_getElem?] at h2
    rcases Nat.lt_or_ge e.on listed.size with h' | h'
    · simp [h'] at h1 h2; rw [h2] at h1; cases h1
    · simp [Array.getElem?_eq_none h'] at h1
  induction fuel with
  | zero =>
    intro listed a w hC _ hr hy hS H
    refine ⟨fun h => (by rw [h] at hr; cases hr), fun j hj => ?_⟩
    by_cases hji : j = i
    · subst hji; exact hy.wpOp hi hS (by rw [if_neg (by rw [hiB]; simp)]; exact ⟨hS, H⟩)
    · have := ready_mono hj hji
      rw [H.1] at this
      cases this
  | succ fuel ih =>
    intro listed a w hC hfree hr hy hS H
    refine ⟨fun h => (by rw [h] at hr; cases hr), fun j hj => ?_⟩
    by_cases hji : j = i
    · subst hji; exact hy.wpOp hi hS (by rw [if_neg (by rw [hiB]; simp)]; exact ⟨hS, H⟩)
    · have h1 := H.2 j (ready_mono hj hji)
      obtain ⟨hjun, oj, hoj, hall⟩ := mem_ready.1 hj
      have hnot : ∀ e ∈ oj.after, Region.binds md e = true → e.on ≠ i := fun e he hb heq => by
        have h1 := hall e he hb
        have h0 := (mem_ready.1 hr).1
        rw [heq] at h1
        rcases Nat.lt_or_ge i listed.size with h' | h'
        · simp [h'] at h0 h1; rw [h0] at h1; cases h1
        · simp [Array.getElem?_eq_none h'] at h1
      have hjB : ¬ B j = true := fun hjb => key listed j hC hj (.inl hjb)
      have hjC : ¬ C j = true := fun hjc => key listed j hC hj (.inr ⟨hjc, hji⟩)
      have h2 := wpOp_putIf hoj (hfree j oj hoj hji hjun hnot) (fun cs b => hsel i oi cs b hi) (fun cs b => hsel j oj cs b hoj) hQ hy h1
      have hfree' : ∀ k ok, ops[k]? = some ok → k ≠ i → (listed.setIfInBounds j true).getD k true = false →
          (∀ e ∈ ok.after, Region.binds md e = true → e.on ≠ i) → oi.apart ops ok = true := fun k ok hk hki hun hno => by
        refine hfree k ok hk hki ?_ hno
        by_cases hjk : j = k
        · subst hjk; exact hjun
        · rw [getD_set_ne true hjk] at hun; exact hun
      have hC' : ∀ k, C k = true → (listed.setIfInBounds j true).getD k true = false := fun k hk => by
        rw [getD_set_ne true (fun e => hjC (by rw [e]; exact hk))]; exact hC k hk
      refine wpOp_mono (fun a' w' h3 => ?_) h2
      have h4 := h3.2
      rw [if_neg hjB] at h4 ⊢
      refine ⟨h4.1, ih (listed.setIfInBounds j true) a' w' hC' hfree' (ready_mono hr (Ne.symm hji)) h3.1 h4.1 ?_⟩
      rw [Array.setIfInBounds_comm _ _ hji]
      exact h4.2
end
/-- every operation of B, and of C but i, waits for one of C; none of C has come up -/
def waitC (ops : Array Oper) (B C : List Nat) (i : Nat) : Bool := (B ++ C.filter fun c => !Nat.beq c i).all fun j => match ops[j]? with
  | some oj => oj.after.any fun e => Region.binds .any e && memN C e.on
  | none => true
theorem waitC_spec {ops : Array Oper} {B C : List Nat} {i : Nat} (h : waitC ops B C i = true) : ∀ j oj, (memN B j = true ∨ memN C j = true ∧ j ≠ i) → ops[j]? = some oj → ∃ e ∈ oj.after, Region.binds .any e = true ∧ memN C e.on = true := by
  intro j oj hj ho
  have hm : j ∈ B ++ C.filter fun c => !Nat.beq c i := by
    rcases hj with hj | ⟨hj, hne⟩
    · exact List.mem_append_left _ ((memN_iff B j).1 hj)
    · refine List.mem_append_right _ (List.mem_filter.2 ⟨(memN_iff C j).1 hj, ?_⟩)
      cases hb : Nat.beq j i with
      | false => rfl
      | true => exact absurd (Nat.eq_of_beq_eq_true hb) hne
  have := List.all_eq_true.1 h j hm
  rw [ho] at this
  simp only [Array.any_eq_true', Bool.and_eq_true] at this
  obtain ⟨e, he, h1, h2⟩ := this
  exact ⟨e, he, h1, h2⟩
theorem k_valC {P : Program} {ops : Array Oper} {S : World → Prop} {B : List Nat} {Q : Exit → Act → World → Prop} {n : Nat} {f : Nat → Value} {w : World} {o : Oper} {listed : Array Bool} {fuel : Nat}
    {v : Value} (C : List Nat) (i : Nat) (hi : ops[i]? = some o) (hs : Region.noSelect ops = true) (hf : Region.free .any ops listed i = true) (hr : (Region.ready .any ops listed).contains i = true) (hQ : ∀ c a w, Q (.panic c) (a.put o.dst v) w → Q (.panic c) a w) (HS : S w)
    (hw : Wants ops o n f true) (hiB : memN B i = false) (hB : waitC ops B C i = true) (hC : (C.all fun c => !listed.getD c true) = true) {d : Nat} (hd : o.dst = some d) (he : ∀ w, S w → (execOp (ev n f) o).run P w = .ok (.value v) w) (k : WK P ops Q S (memN B) fuel (listed.setIfInBounds i true) n (upd f d v) w) :
    WK P ops Q S (memN B) (fuel + 1) listed n f w :=
  ⟨wpAnyK_firstC (memN C) hi (Region.noSelect_spec hs) hQ hiB (waitC_spec hB) fuel listed _ w (fun c hc => by simpa using List.all_eq_true.1 hC c ((memN_iff C c).1 hc)) (Region.free_spec hi hf) (by simpa using hr) (.inl ⟨hw.h, by rw [fr_eval]; exact he⟩) HS (by rw [hd, fr_put]; exact k.h)⟩
/-- the two that may come up; the second is of B -/
theorem k_do2B {P : Program} {ops : Array Oper} {S : World → Prop} {B : List Nat} {Q : Exit → Act → World → Prop} {n : Nat} {f : Nat → Value} {w : World} {listed : Array Bool} {fuel : Nat} {o1 o2 : Oper} (i j : Nat) (S2 : World → Prop) (hi : ops[i]? = some o1) (hj : ops[j]? = some o2) (hr : Region.ready .any ops listed = [i, j]) (hw1 : Wants ops o1 n f true) (hw2 : Wants ops o2 n f true) (hb1 : memN B i = false) (hb2 : memN B j = true)
    (k1 : ∀ K : Act → World → Prop, (∀ g w', S w' → (WK P ops Q S (memN B) fuel (listed.setIfInBounds i true) n g w') → K (fr n g) w') → WO P o1 K Q n f w)
    (k2 : ∀ K : Act → World → Prop, (∀ g w', S2 w' → (WH P ops Q S2 fuel (listed.setIfInBounds j true) n g w') → K (fr n g) w') → WO P o2 K Q n f w) : WK P ops Q S (memN B) (fuel + 1) listed n f w := by
  refine ⟨⟨fun h0 => absurd (hr ▸ h0) (by simp), fun q hq => ?_⟩⟩
  rw [hr] at hq
  rcases List.mem_cons.1 hq with rfl | hq
  · refine wpOp_step hi fun K' hK => ?_
    rw [if_pos hw1.h]
    exact (k1 K' fun g w' hS hk => hK _ _ (by rw [if_neg (by rw [hb1]; simp)]; exact ⟨hS, hk.h⟩)).h
  · obtain rfl := List.mem_singleton.1 hq
    refine wpOp_step hj fun K' hK => ?_
    rw [if_pos hw2.h]
    exact (k2 K' fun g w' hS hk => hK _ _ (by rw [if_pos hb2]; exact ⟨S2, hS, hk.h⟩)).h
theorem stsC_drop {g n c k : Nat} {A : List StampD} {w : World} (hk : k ≤ n) (h : (rowC 49 38 (.slice (some ⟨g, 0, none⟩) n c) n (A.flatMap encSt)).ok w) : (stsC (.slice (some (if c = k then ⟨g, 0, none⟩ else ⟨g, 0 + k * 38, none⟩)) (n - k) (c - k)) (A.drop k)).ok w := ListAt.drop (ListAt.row encSt_len (by decide) h) hk
theorem stsC_dropF {g n c k b : Nat} {A : List StampD} (h : (stsC (.slice (some (if c = k then ⟨g, 0, none⟩ else ⟨g, 0 + k * 38, none⟩)) (n - k) (c - k)) (A.drop k)).fp b) : (rowC 49 38 (.slice (some ⟨g, 0, none⟩) n c) n (A.flatMap encSt)).fp b := by
  have h2 := h.2
  simp only [Value.ownBlock, Option.some.injEq] at h2
  show some g = some b
  rw [← h2]
  split <;> rfl
section
variable {P : Program} {n : Nat} {f : Nat → Value} {w w0 : World} {dst : Option Tmp} {ty : TypeId} {pos : String} {aft : Array Edge} {gd : Option (Nat × Bool)} {K : Act → World → Prop} {Q : Exit → Act → World → Prop} {G : List Ck}
theorem splice_flat {α : Type} {enc : α → List Value} {size : Nat} (hs : ∀ x, (enc x).length = size) : ∀ {A : List α} {i off : Nat} {x0 x1 : α} {vs : List Value}, A[i]? = some x0 → off + vs.length ≤ size → splice (enc x0) off vs = enc x1 → splice (A.flatMap enc) (i * size + off) vs = (A.set i x1).flatMap enc
  | [], i, _, _, _, _, h, _, _ => by simp at h
  | y :: A, 0, off, x0, x1, vs, h, ho, hsp => by
    simp only [List.getElem?_cons_zero, Option.some.injEq] at h
    subst h
    simp only [List.flatMap_cons, List.set_cons_zero, Nat.zero_mul, Nat.zero_add]
    rw [← hsp]
    unfold splice
    have hl := hs y
    rw [List.take_append_of_le_length (by omega), List.drop_append_of_le_length (by omega), List.append_assoc, List.append_assoc, List.append_assoc]
  | y :: A, i + 1, off, x0, x1, vs, h, ho, hsp => by
    simp only [List.getElem?_cons_succ] at h
    have ih := splice_flat hs h ho hsp
    simp only [List.flatMap_cons, List.set_cons_succ]
    rw [← ih]
    unfold splice
    have hl := hs y
    have e : (i + 1) * size + off = (enc y).length + (i * size + off) := by rw [hl, Nat.succ_mul]; omega
    rw [e, List.take_length_add_append, Nat.add_assoc, List.drop_length_add_append, List.append_assoc, List.append_assoc, List.append_assoc]
/-- a store into a thing of a row -/
theorem d_storeS {α : Type} {enc : α → List Value} {size e : Nat} (hs : ∀ x, (enc x).length = size) {T : TypeId} {x y : Operand} {u : Value} {vs : List Value} {g c m o : Nat} {A : List α} (hd : dst = none) (H : Sat w0 G w) (j : Nat) (hj : G[j]? = some (rowC e size (.slice (some ⟨g, 0, none⟩) m c) m (A.flatMap enc)))
    (hx : ev n f x = .pointer (some ⟨g, o, none⟩)) (hy : ev n f y = u) (hu : u.cells = ⟨vs⟩) (hN : P.cellsOf T = vs.length) (h0 : 0 < vs.length) (h1 : vs.all (·.oneCell') = true) (i off : Nat) {x0 : α} (x1 : α) (hi : A[i]? = some x0) (ho : o = i * size + off) (hle : off + vs.length ≤ size) (hsp : splice (enc x0) off vs = enc x1)
    (kk : ∀ w', Sat w0 (G.set j (rowC e size (.slice (some ⟨g, 0, none⟩) m c) m ((A.set i x1).flatMap enc))) w' → K (fr n f) w') : WO P ⟨dst, .store T x y, ty, pos, aft, gd⟩ K Q n f w := by
  have hil : i < A.length := (List.getElem?_eq_some_iff.1 hi).1
  have hlt : i * size + size ≤ A.length * size := by have := Nat.mul_le_mul_right size (show i + 1 ≤ A.length from hil); rwa [Nat.succ_mul] at this
  exact d_storeRow hd H j hj rfl hx hy hu hN h0 (by rw [flat_len enc size hs]; omega) h1 (xs' := (A.set i x1).flatMap enc) (by rw [ho]; exact splice_flat hs hi hle hsp) kk
end
end Go.Proofs.Ytbpeofcoceaahaa
