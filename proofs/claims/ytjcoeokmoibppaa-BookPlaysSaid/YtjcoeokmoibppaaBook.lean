/- WHAT IS PROVED: the contracts of package book's functions. Conditions: stated with each. -/
import Derived.Test.YtjcoeokmoibppaaReg
import Derived.StillTailTactics
namespace Go.Proofs.Ytjcoeokmoibppaa
open Go.RowKit

structure Signed where
  p : Int
  s : List UInt8
  deriving DecidableEq
def signedV (x : Signed) : Value := .agg #[.int .i64 x.p, strV x.s]
theorem signed_eq (w : World) (x y : Signed) : (Op.equal 53 (signedV x) (signedV y)).run Try.prog w = .ok (decide (x = y)) w := by
  simp only [Op.equal, Op.maxDepth, signedV, strV]
  simp [go_sem]
  obtain ⟨x1, x2⟩ := x
  obtain ⟨y1, y2⟩ := y
  have := strV_eq x2 y2
  by_cases h1 : x1 = y1 <;> by_cases h2 : x2 = y2 <;> simp_all
theorem signed_check (w : World) (em : Bool) (x : Signed) : (Instr.checkKey em 10000 53 (signedV x)).run Try.prog w = .ok () w := by
  have h : ∀ n, (Instr.checkKey em (n + 2) 53 (signedV x)).run Try.prog w = .ok () w := fun n => by simp [Instr.checkKey, signedV, strV, go_sem]
  exact h 9998
theorem signedK : KeyTy Try.prog 53 signedV := KeyTy.deep (by kernel_rfl) signed_check signed_eq (by
  intro a
  simp [signedV, strV, Instr.sameBits, strV_beq])
theorem zero_int (w : World) : (zeroValue 3).run Try.prog w = .ok (.int .i64 0) w := by kernel_rfl

/-- the marks of a book: each signed text has its place, counted from 1 -/
def marks (l : List Signed) : List (Signed × Int) := l.zipIdx.map fun x => (x.1, (x.2 : Int) + 1)
/-- the mark of a signed text; 0: it has none -/
def markOf (l : List Signed) (x : Signed) : Int := ((l.idxOf? x).map fun i => (i : Int) + 1).getD 0
def signL (l : List Signed) (x : Signed) : List Signed := if x ∈ l then l else l ++ [x]
/-- A book: one field, its map. -/
def BookAt (w : World) (b mb : Nat) (l : List Signed) : Prop := w.heap[b]? = some (.cells #[.map (some mb)] 50) ∧ b ≠ mb ∧ MapAt w mb signedV (Value.int .i64) (marks l)

theorem marks_keys (l : List Signed) : (marks l).map (·.1) = l := by
  simp [marks, List.map_map, Function.comp_def]
theorem marks_at (l : List Signed) (i : Nat) : (marks l)[i]? = (l[i]?).map fun x => (x, (i : Int) + 1) := by
  simp [marks, List.getElem?_map, List.getElem?_zipIdx, Function.comp_def]
theorem look_marks (l : List Signed) (x : Signed) : lookM (marks l) x = (l.idxOf? x).map fun i => (i : Int) + 1 := by
  rw [lookM_idx, marks_keys]
  cases h : l.idxOf? x with
  | none => simp
  | some i =>
    obtain ⟨h1, _⟩ := List.idxOf?_eq_some_iff.1 h
    simp [marks_at, List.getElem?_eq_getElem h1]
theorem put_marks (l : List Signed) (x : Signed) (h : x ∉ l) : putM (marks l) x ((l.length : Int) + 1) = marks (l ++ [x]) := by
  unfold putM
  rw [marks_keys, if_neg h]
  simp [marks, List.zipIdx_append]
theorem marks_len (l : List Signed) : (marks l).length = l.length := by simp [marks]
theorem BookAt.nodup {w : World} {b mb : Nat} {l : List Signed} (h : BookAt w b mb l) : l.Nodup := by have := h.2.2.nodup; rwa [marks_keys] at this
theorem BookAt.upd {w w' : World} {b mb : Nat} {l : List Signed} {D : List Nat} (h : BookAt w b mb l) (hu : Upd D w w') (h1 : b ∉ D) (h2 : mb ∉ D) : BookAt w' b mb l := ⟨hu.at h.1 h1, h.2.1, h.2.2.upd hu h2⟩
theorem BookAt.lt {w : World} {b mb : Nat} {l : List Signed} (h : BookAt w b mb l) : b < w.heap.size ∧ mb < w.heap.size := ⟨heap_lt h.1, h.2.2.lt⟩
theorem BookAt.alloc {w : World} {b mb : Nat} {l : List Signed} (h : BookAt w b mb l) (o : Obj) : BookAt (w.alloc o) b mb l := h.upd ((Upd.refl [] w).alloc o) (by simp) (by simp)
theorem BookAt.drew {w : World} {b mb : Nat} {l : List Signed} (h : BookAt w b mb l) : BookAt w.drew b mb l := h.upd ((Upd.refl [] w).drew) (by simp) (by simp)
theorem BookAt.setCell {w : World} {b mb : Nat} {l : List Signed} (h : BookAt w b mb l) {p : Addr} (h1 : p.block ≠ b) (h2 : p.block ≠ mb) (u : Value) : BookAt (w.setCell p u) b mb l :=
  h.upd ((Upd.refl [p.block] w).setCell (Or.inr (by simp)) u) (by simpa using h1.symm) (by simpa using h2.symm)
theorem look_run {w w' : World} {mb : Nat} {l : List Signed} (h : MapAt w mb signedV (Value.int .i64) (marks l)) (hw : w'.heap = w.heap) (x : Signed) :
    (Instr.lookup 48 (.map (some mb)) (.agg #[.int .i64 x.p, strV x.s]) false).run Try.prog w' = .ok (.int .i64 (markOf l x)) w' := by
  have h' := h.stay (w' := w') (by rw [hw])
  have := h'.lookup signedK Try.underlying48 zero_int x false
  rw [look_marks] at this
  unfold signedV at this
  rw [this]
  unfold markOf
  cases l.idxOf? x <;> rfl

set_option maxHeartbeats 400000 in
theorem new_any (w : World) : Calls Try.prog 7 #[] w fun e w' => ∃ b mb, e = .returned (.pointer (some ⟨b, 0, none⟩)) ∧ BookAt w' b mb [] ∧ Upd [] w w' ∧ w.heap.size ≤ b ∧ w.heap.size ≤ mb := by
  have hmm := @run_makeMap Try.prog
  go_enter Try.func7, Try.ntmps7
  go_wp2
  go_ret
  refine ⟨w.heap.size + 1, w.heap.size, rfl, ⟨?_, by omega, ?_⟩, ?_, by omega, by omega⟩
  · simpa using heap_alloc_at (w.alloc (.map #[] 0)) _
  · exact (MapAt.made w).alloc _
  · exact ((Upd.refl _ _).alloc _).alloc _

set_option maxHeartbeats 400000 in
theorem len_any (w : World) (b mb : Nat) (l : List Signed) (hb : BookAt w b mb l) : Calls Try.prog 12 #[.pointer (some ⟨b, 0, none⟩)] w fun e w' => e = .returned (.int .i64 l.length) ∧ w = w' := by
  have hc := cell_of_heap hb.1 0
  have hlen := hb.2.2.len Try.underlying48 3
  rw [marks_len] at hlen
  go_enter Try.func12, Try.ntmps12
  go_wp2
  go_ret
  exact ⟨rfl, rfl⟩

theorem markOf_none {l : List Signed} {x : Signed} (h : x ∉ l) : markOf l x = 0 := by
  have : l.idxOf? x = none := List.idxOf?_eq_none_iff.2 h
  simp [markOf, this]
theorem markOf_pos {l : List Signed} {x : Signed} (h : x ∈ l) : 1 ≤ markOf l x ∧ markOf l x ≤ l.length := by
  cases hi : l.idxOf? x with
  | none => exact absurd h (List.idxOf?_eq_none_iff.1 hi)
  | some i =>
    obtain ⟨h1, _⟩ := List.idxOf?_eq_some_iff.1 hi
    simp [markOf, hi]; omega
theorem markOf_new {l : List Signed} {x : Signed} (h : x ∉ l) : markOf (l ++ [x]) x = l.length + 1 := by
  have : (l ++ [x]).idxOf? x = some l.length := by
    rw [List.idxOf?_eq_some_iff]
    refine ⟨by simp, by simp, fun j hj => ?_⟩
    rw [List.getElem_append_left hj]
    intro e
    exact h (e ▸ List.getElem_mem hj)
  simp [markOf, this]

set_option maxHeartbeats 1000000 in
theorem sign_new (w : World) (b mb : Nat) (l : List Signed) (p : Int) (v : Value) (s : List UInt8) (hb : BookAt w b mb l) (hv : BytesAt w v s) (hm : ⟨p, s⟩ ∉ l) (hl : l.length ≤ 1000000000) :
    Calls Try.prog 9 #[.pointer (some ⟨b, 0, none⟩), .int .i64 p, v] w fun e w' => e = .returned (.agg #[.int .i64 p, .int .i64 (l.length + 1)]) ∧ BookAt w' b mb (l ++ [⟨p, s⟩]) ∧ Upd [mb] w w' := by
  have hc : w.cell? ⟨b, 0, none⟩ = some (.map (some mb)) := cell_of_heap hb.1 0
  have hbl := hb.lt
  have hne := hb.2.1
  have hconv := run_bytes_string (P := Try.prog) (w := w.alloc (.cells #[.int .i64 0, .int .i64 0] 30)) (hv.mono (cell_alloc _)) (src := 27) (dst := 9) Try.underlying27 Try.underlying5 Try.underlying9
  go_enter Try.func9, Try.ntmps9
  go_wp2
  generalize hW : World.alloc _ _ = W
  have hu : Upd [mb] w W := by rw [← hW]; exact ((Upd.refl _ _).alloc _).alloc _
  have hb1 : BookAt W b mb l := hb.upd (D := []) (by rw [← hW]; exact ((Upd.refl _ _).alloc _).alloc _) (by simp) (by simp)
  have c0 : W.cell? ⟨b, 0, none⟩ = some (.map (some mb)) := cell_of_heap hb1.1 0
  have c6 : W.heap[w.heap.size]? = some (.cells #[.int .i64 0, .int .i64 0] 30) := by rw [← hW]; exact heap_alloc_of (heap_alloc_at _ _) _
  have c7 : W.heap[w.heap.size + 1]? = some (.cells #[.int .i64 p, strV s] 53) := by rw [← hW]; simpa using heap_alloc_at (w.alloc _) _
  have c60 : W.cell? ⟨w.heap.size, 0, none⟩ = some (.int .i64 0) := cell_of_heap c6 0
  have c61 : W.cell? ⟨w.heap.size, 1, none⟩ = some (.int .i64 0) := cell_of_heap c6 1
  have c70 : W.cell? ⟨w.heap.size + 1, 0, none⟩ = some (.int .i64 p) := cell_of_heap c7 0
  have c71 : W.cell? ⟨w.heap.size + 1, 1, none⟩ = some (strV s) := cell_of_heap c7 1
  clear hW hconv
  have hlk : ∀ n, (Instr.lookup 48 (.map (some mb)) (.agg #[.int .i64 p, strV s]) false).run Try.prog (W.drewN n) = .ok (.int .i64 0) (W.drewN n) := fun n => by
    have := look_run (w' := W.drewN n) hb1.2.2 rfl ⟨p, s⟩
    rwa [markOf_none hm] at this
  go_quiet (fail)
  clear hlk
  go_wp2
  generalize hX : W.drewN nq = X
  have huX : Upd [] W X := hX ▸ (Upd.refl _ _).drewN nq
  have hb2 := hb1.upd huX (by simp) (by simp)
  have hlen : (Builtin.len_ #[48] 3 #[.map (some mb)]).run Try.prog X.drew = .ok (.int .i64 l.length) X.drew := by
    have := (hb2.2.2.stay (w' := X.drew) rfl).len Try.underlying48 3
    rwa [marks_len] at this
  obtain ⟨Y, hup, hmY, huY, hsY⟩ := (hb2.2.2.stay (w' := X.drew) rfl).update signedK Try.underlying48 ⟨p, s⟩ ((l.length : Int) + 1)
  rw [put_marks l ⟨p, s⟩ hm] at hmY
  simp only [signedV] at hup
  have d0 := huX.cell c0 (by simp)
  have d70 := huX.cell c70 (by simp)
  have d71 := huX.cell c71 (by simp)
  clear c0 c60 c61 c70 c71 hX
  have hwr : IntKind.i64.wrap ((l.length : Int) + 1) = l.length + 1 := IntWalk.i64_in _ (by omega)
  go_still_tail 11, (by kernel_rfl)
  go_wp2
  clear hup hlen hwr
  have huY' : Upd [mb] X Y := huY.of_drew
  have e6 := huY'.at (huX.at c6 (by simp)) (by simp; omega)
  have e7 := huY'.at (huX.at c7 (by simp)) (by simp; omega)
  have hb3 : BookAt Y b mb (l ++ [⟨p, s⟩]) := ⟨huY'.at hb2.1 (by simpa using hne), hne, hmY⟩
  have huY : Upd [mb] w Y := hu.trans (huX.nil.trans huY')
  clear huX hb2 d0 d70 d71 huY' c6 c7 hsY
  generalize hM : (l.length : Int) + 1 = M
  have hlk : (Instr.lookup 48 (.map (some mb)) (.agg #[.int .i64 p, strV s]) false).run Try.prog Y.drew = .ok (.int .i64 M) Y.drew := by
    have := look_run (w' := Y.drew) hb3.2.2 rfl ⟨p, s⟩
    rwa [markOf_new hm, hM] at this
  have HM : Hid ((l.length : Int) + 1 = M) := hM
  clear hM
  have hbY := hb3.lt
  have e0 : Y.cell? ⟨b, 0, none⟩ = some (.map (some mb)) := cell_of_heap hb3.1 0
  have e60 : Y.cell? ⟨w.heap.size, 0, none⟩ = some (.int .i64 0) := cell_of_heap e6 0
  have e61 : Y.cell? ⟨w.heap.size, 1, none⟩ = some (.int .i64 0) := cell_of_heap e6 1
  have f60 : Y.frozen? ⟨w.heap.size, 0, none⟩ = false := frozen_of_heap e6 0
  have f61 : Y.frozen? ⟨w.heap.size, 1, none⟩ = false := frozen_of_heap e6 1
  have e70 : Y.cell? ⟨w.heap.size + 1, 0, none⟩ = some (.int .i64 p) := cell_of_heap e7 0
  have e71 : Y.cell? ⟨w.heap.size + 1, 1, none⟩ = some (strV s) := cell_of_heap e7 1
  go_still_tail 8, (by kernel_rfl)
  go_wp2
  refine bodyPost_ret (v := .agg #[.int .i64 p, .int .i64 M]) (by simp [results, Try.results9, go_sem, e60, e61]) rfl ?_
  have hf : ∀ a, Upd [mb] w (((Y.drew).setCell ⟨w.heap.size, 0, none⟩ (.int .i64 p)).setCell ⟨w.heap.size, 1, none⟩ a) := fun a => (huY.drew.setCell (Or.inl (Nat.le_refl _)) _).setCell (Or.inl (Nat.le_refl _)) _
  have hg : ∀ a, Upd [w.heap.size] Y (((Y.drew).setCell ⟨w.heap.size, 0, none⟩ (.int .i64 p)).setCell ⟨w.heap.size, 1, none⟩ a) := fun a => ((Upd.refl _ _).drew.setCell (Or.inr (by simp)) _).setCell (Or.inr (by simp)) _
  exact ⟨by rw [HM.out], hb3.upd (hg _) (by simp; omega) (by simp; omega), hf _⟩

set_option maxHeartbeats 1000000 in
theorem sign_old (w : World) (b mb : Nat) (l : List Signed) (p : Int) (v : Value) (s : List UInt8) (hb : BookAt w b mb l) (hv : BytesAt w v s) (hm : ⟨p, s⟩ ∈ l) :
    Calls Try.prog 9 #[.pointer (some ⟨b, 0, none⟩), .int .i64 p, v] w fun e w' => e = .returned (.agg #[.int .i64 p, .int .i64 (markOf l ⟨p, s⟩)]) ∧ BookAt w' b mb l ∧ Upd [mb] w w' := by
  have hpos := markOf_pos hm
  generalize hM : markOf l ⟨p, s⟩ = M at *
  have hM0 : (M == 0) = false := by simp; omega
  have hc : w.cell? ⟨b, 0, none⟩ = some (.map (some mb)) := cell_of_heap hb.1 0
  have hbl := hb.lt
  have hne := hb.2.1
  have hconv := run_bytes_string (P := Try.prog) (w := w.alloc (.cells #[.int .i64 0, .int .i64 0] 30)) (hv.mono (cell_alloc _)) (src := 27) (dst := 9) Try.underlying27 Try.underlying5 Try.underlying9
  go_enter Try.func9, Try.ntmps9
  go_wp2
  generalize hW : World.alloc _ _ = W
  have hu : Upd [mb] w W := by rw [← hW]; exact ((Upd.refl _ _).alloc _).alloc _
  have hb1 : BookAt W b mb l := hb.upd (D := []) (by rw [← hW]; exact ((Upd.refl _ _).alloc _).alloc _) (by simp) (by simp)
  have c0 : W.cell? ⟨b, 0, none⟩ = some (.map (some mb)) := cell_of_heap hb1.1 0
  have c6 : W.heap[w.heap.size]? = some (.cells #[.int .i64 0, .int .i64 0] 30) := by rw [← hW]; exact heap_alloc_of (heap_alloc_at _ _) _
  have c7 : W.heap[w.heap.size + 1]? = some (.cells #[.int .i64 p, strV s] 53) := by rw [← hW]; simpa using heap_alloc_at (w.alloc _) _
  have c60 : W.cell? ⟨w.heap.size, 0, none⟩ = some (.int .i64 0) := cell_of_heap c6 0
  have c61 : W.cell? ⟨w.heap.size, 1, none⟩ = some (.int .i64 0) := cell_of_heap c6 1
  have c70 : W.cell? ⟨w.heap.size + 1, 0, none⟩ = some (.int .i64 p) := cell_of_heap c7 0
  have c71 : W.cell? ⟨w.heap.size + 1, 1, none⟩ = some (strV s) := cell_of_heap c7 1
  clear hW hconv
  have hlk : ∀ n, (Instr.lookup 48 (.map (some mb)) (.agg #[.int .i64 p, strV s]) false).run Try.prog (W.drewN n) = .ok (.int .i64 M) (W.drewN n) := fun n => by
    have := look_run (w' := W.drewN n) hb1.2.2 rfl ⟨p, s⟩
    rwa [hM] at this
  clear hM
  go_quiet (fail)
  go_wp2
  generalize hX : W.drewN nq = Y
  have huX : Upd [] W Y := hX ▸ (Upd.refl _ _).drewN nq
  have hb3 := hb1.upd huX (by simp) (by simp)
  have e6 := huX.at c6 (by simp)
  have e7 := huX.at c7 (by simp)
  have huY : Upd [mb] w Y := hu.trans huX.nil
  have hlk : (Instr.lookup 48 (.map (some mb)) (.agg #[.int .i64 p, strV s]) false).run Try.prog Y.drew = .ok (.int .i64 M) Y.drew := by
    have := hlk (nq + 1); rw [← hX]; exact this
  clear c0 c60 c61 c70 c71 hX c6 c7
  have hbY := hb3.lt
  have e0 : Y.cell? ⟨b, 0, none⟩ = some (.map (some mb)) := cell_of_heap hb3.1 0
  have e60 : Y.cell? ⟨w.heap.size, 0, none⟩ = some (.int .i64 0) := cell_of_heap e6 0
  have e61 : Y.cell? ⟨w.heap.size, 1, none⟩ = some (.int .i64 0) := cell_of_heap e6 1
  have f60 : Y.frozen? ⟨w.heap.size, 0, none⟩ = false := frozen_of_heap e6 0
  have f61 : Y.frozen? ⟨w.heap.size, 1, none⟩ = false := frozen_of_heap e6 1
  have e70 : Y.cell? ⟨w.heap.size + 1, 0, none⟩ = some (.int .i64 p) := cell_of_heap e7 0
  have e71 : Y.cell? ⟨w.heap.size + 1, 1, none⟩ = some (strV s) := cell_of_heap e7 1
  go_still_tail 8, (by kernel_rfl)
  go_wp2
  refine bodyPost_ret (v := .agg #[.int .i64 p, .int .i64 M]) (by simp [results, Try.results9, go_sem, e60, e61]) rfl ?_
  have hf : ∀ a, Upd [mb] w (((Y.drew).setCell ⟨w.heap.size, 0, none⟩ (.int .i64 p)).setCell ⟨w.heap.size, 1, none⟩ a) := fun a => (huY.drew.setCell (Or.inl (Nat.le_refl _)) _).setCell (Or.inl (Nat.le_refl _)) _
  have hg : ∀ a, Upd [w.heap.size] Y (((Y.drew).setCell ⟨w.heap.size, 0, none⟩ (.int .i64 p)).setCell ⟨w.heap.size, 1, none⟩ a) := fun a => ((Upd.refl _ _).drew.setCell (Or.inr (by simp)) _).setCell (Or.inr (by simp)) _
  exact ⟨rfl, hb3.upd (hg _) (by simp; omega) (by simp; omega), hf _⟩

/-- is it right? -/
def rightB (l : List Signed) (p mk : Int) (s : List UInt8) : Bool := decide (0 < markOf l ⟨p, s⟩ ∧ markOf l ⟨p, s⟩ = mk)

set_option maxHeartbeats 1000000 in
theorem right_any (w : World) (b mb : Nat) (l : List Signed) (p mk : Int) (v : Value) (s : List UInt8) (hb : BookAt w b mb l) (hv : BytesAt w v s) :
    Calls Try.prog 11 #[.pointer (some ⟨b, 0, none⟩), .agg #[.int .i64 p, .int .i64 mk], v] w fun e w' => e = .returned (.bool (rightB l p mk s)) ∧ Upd [] w w' := by
  have hbl := hb.lt
  unfold rightB
  generalize hM : markOf l ⟨p, s⟩ = M
  have HM : Hid (markOf l ⟨p, s⟩ = M) := hM
  clear hM
  by_cases h1 : 0 < M <;> by_cases h2 : M = mk
  all_goals
    go_enter Try.func11, Try.ntmps11
    go_wp2
    generalize hW : World.alloc _ _ = W
    have hu : Upd [] w W := by rw [← hW]; exact (Upd.refl _ _).alloc _
    have hb1 : BookAt W b mb l := hb.upd hu (by simp) (by simp)
    have c0 : W.cell? ⟨b, 0, none⟩ = some (.map (some mb)) := cell_of_heap hb1.1 0
    have c4 : W.heap[w.heap.size]? = some (.cells #[.int .i64 p, .int .i64 mk] 30) := by rw [← hW]; exact heap_alloc_at _ _
    have c40 : W.cell? ⟨w.heap.size, 0, none⟩ = some (.int .i64 p) := cell_of_heap c4 0
    have c41 : W.cell? ⟨w.heap.size, 1, none⟩ = some (.int .i64 mk) := cell_of_heap c4 1
    have hconv := fun n => run_bytes_string (P := Try.prog) (w := W.drewN n) (hv.mono (hu.drewN n).cells) (src := 27) (dst := 9) Try.underlying27 Try.underlying5 Try.underlying9
    clear hW
    have hlk : ∀ n, (Instr.lookup 48 (.map (some mb)) (.agg #[.int .i64 p, strV s]) false).run Try.prog (W.drewN n) = .ok (.int .i64 M) (W.drewN n) := fun n => by
      have := look_run (w' := W.drewN n) hb1.2.2 rfl ⟨p, s⟩
      rwa [HM.out] at this
    go_quiet (fail)
    clear hconv hlk
    go_wp2
    go_ret
    refine ⟨?_, hu.drewN _⟩
    simp [h1, h2] <;> omega

theorem signL_mem (l : List Signed) (x : Signed) : x ∈ signL l x := by unfold signL; split <;> simp_all
theorem signL_of_mem {l : List Signed} {x : Signed} (h : x ∈ l) : signL l x = l := if_pos h
theorem signL_sub {l : List Signed} {x y : Signed} (h : y ∈ l) : y ∈ signL l x := by unfold signL; split <;> simp_all
theorem signL_len (l : List Signed) (x : Signed) : (signL l x).length ≤ l.length + 1 := by unfold signL; split <;> simp
theorem markOf_app {l : List Signed} {y : Signed} (h : y ∈ l) (m : List Signed) : markOf (l ++ m) y = markOf l y := by
  have : (l ++ m).idxOf? y = l.idxOf? y := by
    cases hi : l.idxOf? y with
    | none => exact absurd h (List.idxOf?_eq_none_iff.1 hi)
    | some i =>
      obtain ⟨h1, h2, h3⟩ := List.idxOf?_eq_some_iff.1 hi
      rw [List.idxOf?_eq_some_iff]
      refine ⟨by simp; omega, by rw [List.getElem_append_left h1]; exact h2, fun j hj => ?_⟩
      rw [List.getElem_append_left (by omega)]
      exact h3 j hj
  simp [markOf, this]
theorem markOf_signL {l : List Signed} {x y : Signed} (h : y ∈ l) : markOf (signL l x) y = markOf l y := by
  unfold signL; split
  · rfl
  · exact markOf_app h _
theorem markOf_inj {l : List Signed} {x y : Signed} (hx : x ∈ l) (h : markOf l x = markOf l y) : x = y := by
  cases hi : l.idxOf? x with
  | none => exact absurd hx (List.idxOf?_eq_none_iff.1 hi)
  | some i =>
    cases hj : l.idxOf? y with
    | none => simp [markOf, hi, hj] at h; omega
    | some j =>
      simp [markOf, hi, hj] at h
      obtain rfl : i = j := by omega
      obtain ⟨_, h2, _⟩ := List.idxOf?_eq_some_iff.1 hi
      obtain ⟨_, h4, _⟩ := List.idxOf?_eq_some_iff.1 hj
      exact h2.symm.trans h4

/-- a text is signed, new or not -/
theorem sign_any (w : World) (b mb : Nat) (l : List Signed) (p : Int) (v : Value) (s : List UInt8) (hb : BookAt w b mb l) (hv : BytesAt w v s) (hl : l.length ≤ 1000000000) :
    Calls Try.prog 9 #[.pointer (some ⟨b, 0, none⟩), .int .i64 p, v] w fun e w' => e = .returned (.agg #[.int .i64 p, .int .i64 (markOf (signL l ⟨p, s⟩) ⟨p, s⟩)]) ∧ BookAt w' b mb (signL l ⟨p, s⟩) ∧ Upd [mb] w w' := by
  by_cases h : ⟨p, s⟩ ∈ l
  · rw [signL_of_mem h]
    exact sign_old w b mb l p v s hb hv h
  · have e : signL l ⟨p, s⟩ = l ++ [⟨p, s⟩] := if_neg h
    rw [e, markOf_new h]
    exact sign_new w b mb l p v s hb hv h hl
end Go.Proofs.Ytjcoeokmoibppaa
