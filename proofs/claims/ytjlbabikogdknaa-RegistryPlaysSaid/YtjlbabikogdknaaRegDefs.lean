/- WHAT IS PROVED: the registry as a list of names and clients; plain laws on it. Conditions: stated with each. -/
import Derived.Test.YtjlbabikogdknaaItems
import Derived.Test.YtjlbabikogdknaaSep
import Derived.Test.YtjlbabikogdknaaObj
import Derived.Test.YtjlbabikogdknaaListAt
import Derived.Test.YtjlbabikogdknaaMinMax
namespace Go.Proofs.Ytjlbabikogdknaa
open Go.RowKit
abbrev RegL := List (List UInt8 × Int)
theorem strK : KeyTy Try.prog 9 strV := KeyTy.str Try.underlying9
theorem optD {α : Type} (enc : α → Value) (o : Option α) (z : α) : (o.map enc).getD (enc z) = enc (o.getD z) := by cases o <;> rfl
def regL (r b : Nat) (l : RegL) : List Ck := [cellC r 52 [.map (some b)], mapC b strV (Value.int .i64) l]
def regC (r b : Nat) (l : RegL) : Ck := sepC (regL r b l)
theorem regC_parts {r b : Nat} {l : RegL} {w : World} (h : (regC r b l).ok w) : w.heap[r]? = some (.cells ⟨[.map (some b)]⟩ 52 (0, 0)) ∧ MapAt w b strV (Value.int .i64) l := by
  have h1 := h.1
  simp only [regL, List.forall_mem_cons, List.not_mem_nil, false_implies, implies_true, and_true] at h1
  exact h1
def lcB (c : UInt8) : Bool := decide (97 ≤ c.toNat) && decide (c.toNat ≤ 122)
def nameB (s : List UInt8) : Bool := s.all lcB && decide (1 ≤ s.length) && decide (s.length ≤ 16)
def mayB (s : List UInt8) (c : Int) : Bool := nameB s && decide (0 ≤ c) && decide (c < 100)
theorem all_step {s : List UInt8} {i : Nat} (h : (s.take i).all lcB = true) (hi : i < s.length) (hc : lcB (s.getD i 0) = true) : (s.take (i + 1)).all lcB = true := by
  rw [List.getD_eq_getElem?_getD, List.getElem?_eq_getElem hi] at hc
  rw [List.take_add_one, List.getElem?_eq_getElem hi, List.all_append, h]
  simpa using hc
theorem all_not {s : List UInt8} {i : Nat} (hi : i < s.length) (hc : lcB (s.getD i 0) = false) : s.all lcB = false := by
  rw [List.getD_eq_getElem?_getD, List.getElem?_eq_getElem hi] at hc
  rw [List.all_eq_false]
  exact ⟨_, List.getElem_mem hi, by simpa using hc⟩
def resE (l : RegL) (s : List UInt8) (c : Int) : Int := if mayB s c = true then (if (lookM l s).isSome = true then 5 else if 64 ≤ l.length then 7 else 0) else 1
def resL (l : RegL) (s : List UInt8) (c : Int) : RegL := if resE l s c = 0 then putM l s c else l
def relE (l : RegL) (s : List UInt8) (c : Int) : Int := if mayB s c = true then (if (lookM l s).isSome = true then (if (lookM l s).getD 0 = c then 0 else 12) else 6) else 1
def relL (l : RegL) (s : List UInt8) (c : Int) : RegL := if relE l s c = 0 then delM l s else l
def cntL (l : RegL) (c : Int) : Int := ((l.countP fun x => decide (x.2 = c) : Nat) : Int)
def encS (s : List UInt8) : List Value := [strV s]
theorem encS_len (x : List UInt8) : (encS x).length = 1 := rfl
theorem encS_one (x : List UInt8) : (encS x).all (·.oneCell') = true := rfl
theorem mapS (xs : List (List UInt8)) : xs.map strV = xs.flatMap encS := by
  induction xs with
  | nil => rfl
  | cons x xs ih => rw [List.map_cons, List.flatMap_cons, ih]; rfl
theorem sortK_len {ν : Type} (l : List (List UInt8 × ν)) : (sortK l).length = l.length := by
  unfold sortK; rw [(List.mergeSort_perm _ _).length_eq, List.length_map]
theorem keysB_any (w : World) (b : Nat) : Calls Try.prog 22 #[.map (some b)] w fun e w' => ∃ bx, e = .returned (.func (.func 32) #[] #[.pointer (some ⟨bx, 0, none⟩)]) ∧ (cellC bx 50 [.map (some b)]).ok w' ∧ Upd [] w w' ∧ w.heap.size ≤ bx := by
  refine (keys18_any w b).mono ?_
  rintro e w' ⟨rfl, rfl⟩
  exact ⟨_, rfl, heap_alloc_at w _, ⟨rfl, rfl, rfl, by simp, fun k hk _ => Below.heap_alloc w _ k hk⟩, Nat.le_refl _⟩
theorem sortedB_any (w : World) (b bx : Nat) (l : RegL) (hbx : w.cell? ⟨bx, 0, none⟩ = some (.map (some b))) (hm : MapAt w b strV (Value.int .i64) l) (hl : l.length ≤ 1000000) (hs : ∀ x ∈ l, x.1.length ≤ 1000000) :
    Calls Try.prog 21 #[.func (.func 32) #[] #[.pointer (some ⟨bx, 0, none⟩)]] w fun e w' => ∃ u, e = .returned u ∧ (rowC 9 1 u (sortK l).length ((sortK l).flatMap encS)).ok w' ∧ Upd [] w w' ∧ ∀ k, u.ownBlock = some k → w.heap.size ≤ k := by
  refine (sorted18_any w b bx l hbx hm hl hs).mono ?_
  rintro e w' ⟨u, rfl, h, h2⟩
  rw [← sortK_len l, mapS] at h
  exact ⟨u, rfl, h, h2⟩
/-- names that may be are short -/
def Short (l : RegL) : Prop := l.length ≤ 64 ∧ ∀ x ∈ l, x.1.length ≤ 16
theorem mayB_short {s : List UInt8} {c : Int} (h : mayB s c = true) : s.length ≤ 16 := by
  simp only [mayB, nameB, Bool.and_eq_true, decide_eq_true_eq] at h; omega
theorem mem_putM {l : RegL} {a : List UInt8} {v : Int} {x : List UInt8 × Int} (h : x ∈ putM l a v) : x.1 = a ∨ x ∈ l := by
  unfold putM at h
  split at h
  · obtain ⟨y, hy, rfl⟩ := List.mem_map.1 h
    split
    · exact .inl rfl
    · exact .inr hy
  · rcases List.mem_append.1 h with h | h
    · exact .inr h
    · rw [List.mem_singleton.1 h]; exact .inl rfl
theorem lookM_none {κ ν : Type} [DecidableEq κ] {l : List (κ × ν)} {a : κ} (h : (lookM l a).isSome = false) : a ∉ l.map (·.1) := by
  intro hm
  obtain ⟨x, hx, rfl⟩ := List.mem_map.1 hm
  unfold lookM at h
  rw [Option.isSome_map] at h
  have h2 : (l.find? fun y => y.1 == x.1).isSome = true := List.find?_isSome.2 ⟨x, hx, by simp⟩
  rw [h2] at h
  cases h
theorem putM_len {l : RegL} {a : List UInt8} {v : Int} (h : (lookM l a).isSome = false) : (putM l a v).length = l.length + 1 := by
  unfold putM; rw [if_neg (lookM_none h)]; simp
theorem delM_len {l : RegL} {a : List UInt8} : (delM l a).length ≤ l.length := by
  unfold delM; split
  · exact Nat.le_refl _
  · exact List.length_eraseIdx_le _ _
theorem mem_delM {l : RegL} {a : List UInt8} {x : List UInt8 × Int} (h : x ∈ delM l a) : x ∈ l := by
  unfold delM at h; split at h
  · exact h
  · exact List.mem_of_mem_eraseIdx h
theorem Short.nil : Short [] := ⟨by simp, by simp⟩
theorem resE_zero {l : RegL} {s : List UInt8} {c : Int} (h : resE l s c = 0) : mayB s c = true ∧ (lookM l s).isSome = false ∧ l.length < 64 := by
  unfold resE at h
  split at h
  · split at h
    · omega
    · split at h
      · omega
      · exact ⟨by assumption, by simpa using (by assumption : ¬ (lookM l s).isSome = true), by omega⟩
  · omega
theorem Short.res {l : RegL} (h : Short l) (s : List UInt8) (c : Int) : Short (resL l s c) := by
  unfold resL
  split
  · rename_i h0
    obtain ⟨h1, h2, h3⟩ := resE_zero h0
    refine ⟨by rw [putM_len h2]; omega, fun x hx => ?_⟩
    rcases mem_putM hx with e | e
    · rw [e]; exact mayB_short h1
    · exact h.2 x e
  · exact h
theorem Short.rel {l : RegL} (h : Short l) (s : List UInt8) (c : Int) : Short (relL l s c) := by
  unfold relL
  split
  · exact ⟨Nat.le_trans delM_len h.1, fun x hx => h.2 x (mem_delM hx)⟩
  · exact h
end Go.Proofs.Ytjlbabikogdknaa
