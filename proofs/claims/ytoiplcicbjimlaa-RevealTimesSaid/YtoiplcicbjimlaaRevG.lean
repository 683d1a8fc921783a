/- WHAT IS PROVED: places that are waited for, with their denials and openings, as data and as pieces of memory; copies of maps of denials. Conditions: stated with each. -/
import Derived.Test.YtoiplcicbjimlaaWt
import Derived.Test.YtoiplcicbjimlaaRt
import Derived.Test.YtoiplcicbjimlaaReg
import Derived.WalkSpells
import Derived.MapKept
import Derived.Test.YtoiplcicbjimlaaRevD
import Derived.Test.YtoiplcicbjimlaaStrMap
namespace Go.Proofs.Ytoiplcicbjimlaa
open Go.RowKit
structure DenyD where
  r : Int
  i : Int
  sb : Int
  sm : Int
deriving DecidableEq
def encDn (d : DenyD) : List Value := [.int .i64 d.r, .int .i64 d.i, .int .i64 d.sb, .int .i64 d.sm]
def denV (d : DenyD) : Value := .agg ⟨encDn d⟩
theorem encDn_len (d : DenyD) : (encDn d).length = 4 := rfl
theorem encDn_one (d : DenyD) : (encDn d).all (·.oneCell') = true := by simp [encDn, Value.oneCell']
def deny0 : DenyD := ⟨0, 0, 0, 0⟩
theorem zeroDn (w : World) : (zeroValue 63).run Try.prog w = .ok (denV deny0) w := by kernel_rfl
def denyB (r i : Int) : List UInt8 := [rowB [100, 101, 110, 121], intB r, intB i].flatten
theorem denyB_len (r i : Int) : (denyB r i).length ≤ 40 := by
  unfold denyB
  have h1 := rowB_len [100, 101, 110, 121]
  have h2 := intB_len r
  have h3 := intB_len i
  simp only [List.length_cons, List.length_nil] at h1
  simp only [List.flatten_cons, List.flatten_nil, List.length_append, List.length_nil]
  omega
end Go.Proofs.Ytoiplcicbjimlaa
namespace Go.Proofs.Ytoiplcicbjimlaa
open Go.RowKit
section
variable {P : Program} (w : World)
theorem run_typeAssert_map (t xT k e : TypeId) (v : Value) (h : P.underlying t = some (.map k e)) : (Instr.typeAssert (.iface t v) xT t false).run P w = .ok v w := by
  simp [Instr.typeAssert, run_underlying h, go_sem, Result.andThen]
theorem run_maps_clone {r : Nat} {es : Array MapEntry} {clock : Nat} (t : TypeId) (hb : w.heap[r]? = some (.map es clock)) :
    (Extern.MapsClone.clone #[.iface t (.map (some r))]).run P w = .ok (.iface t (.map (some w.heap.size))) (w.alloc (.map es clock)) := by
  have e : Extern.MapsClone.clone #[.iface t (.map (some r))] = (getObj r >>= fun o => match o with
      | .map entries clock => (newObj (.map entries clock) >>= fun n => pure (.iface t (.map (some n))))
      | _ => stuck "maps.clone: a map expected") := rfl
  rw [e]
  simp [MapKept.run_getObj_map hb, Result.andThen, go_sem]
end
end Go.Proofs.Ytoiplcicbjimlaa
namespace Go.Proofs.Ytoiplcicbjimlaa
open Go.RowKit

set_option maxRecDepth 100000 in
set_option maxHeartbeats 1000000 in
theorem clD_raw (b : Nat) (es : Array MapEntry) (clock : Nat) (w : World) (hb : w.heap[b]? = some (.map es clock)) :
    Calls Try.prog 53 #[.map (some b)] w fun e w' => e = .returned (.map (some w.heap.size)) ∧ w' = w.alloc (.map es clock) := by
  have hq := fun w => run_eql_map_nil (P := Try.prog) w 87 3 63 (some b) Try.underlying87
  go_enter Try.func53, Try.ntmps53
  go_wp2
  rw [run_callFunc_extern Try.func67 (by kernel_rfl) (by kernel_rfl) (by kernel_rfl) (e := Extern.MapsClone.clone) (by kernel_rfl), run_maps_clone w 87 hb]
  simp only [Result.andThen]
  rw [Oper.upon_value]
  go_wp2
  rw [run_typeAssert_map _ 87 20 _ _ _ Try.underlying87]
  simp only [Result.andThen]
  rw [Oper.upon_value]
  go_wp2
  go_ret
  exact ⟨rfl, rfl⟩
/-- a map and its clone -/
theorem clD_any {κ ν : Type} {encK : κ → Value} {encV : ν → Value} {l : List (κ × ν)} (b : Nat) (w : World) (hm : MapAt w b encK encV l) :
    Calls Try.prog 53 #[.map (some b)] w fun e w' => ∃ c, e = .returned (.map (some c)) ∧ MapAt w' c encK encV l ∧ Upd [] w w' ∧ w.heap.size ≤ c := by
  obtain ⟨es, clock, hb, h1, h2⟩ := hm
  refine (clD_raw b es clock w hb).mono ?_
  rintro e w' ⟨rfl, rfl⟩
  exact ⟨w.heap.size, rfl, ⟨es, clock, heap_alloc_at w _, h1, h2⟩, (Upd.refl _ _).alloc _, Nat.le_refl _⟩

structure PlX where
  p : PlaceD
  D : List (Int × DenyD)
  pay : List UInt8
def encX (x : PlX) : Value := encP x.p
def plX0 : PlX := ⟨place0, [], []⟩
theorem zeroX (w : World) : (zeroValue 89).run Try.prog w = .ok (encX plX0) w := zeroP w
/-- where a place's opening lies -/
def payC (x : PlX) : Ck := rowC 5 1 (.slice x.p.oa x.p.ol x.p.oc) x.pay.length (x.pay.flatMap encB)
def fpX (x : PlX) (b : Nat) : Prop := x.p.dm = some b ∨ (payC x).fp b
def okX (w : World) (x : PlX) : Prop := (∃ b, x.p.dm = some b ∧ MapAt w b (Value.int .i64) denV x.D) ∧ (payC x).ok w
/-- the denials and the openings of all places -/
def denC (L : List (Int × PlX)) : Ck where
  fp b := ∃ y ∈ L, fpX y.2 b
  ok w := ∀ y ∈ L, okX w y.2
  stay {w w'} h hb y hy := by
    obtain ⟨⟨b, h1, h2⟩, h3⟩ := h y hy
    exact ⟨⟨b, h1, h2.stay (hb b ⟨y, hy, .inl h1⟩)⟩, (payC y.2).stay h3 fun q hq => hb q ⟨y, hy, .inr hq⟩⟩
  lt {w} h b hb := by
    obtain ⟨y, hy, hf⟩ := hb
    obtain ⟨⟨c, h1, h2⟩, h3⟩ := h y hy
    rcases hf with hf | hf
    · rw [h1] at hf; cases hf; exact h2.lt
    · exact (payC y.2).lt h3 b hf
section
variable {κ ν : Type} [DecidableEq κ] {l : List (κ × ν)} {a : κ} {v : ν}
theorem mem_putG {y : κ × ν} (h : y ∈ putM l a v) : y = (a, v) ∨ y ∈ l := by
  unfold putM at h
  split at h
  · obtain ⟨z, hz, e⟩ := List.mem_map.1 h
    split at e
    · exact .inl e.symm
    · exact .inr (e ▸ hz)
  · rcases List.mem_append.1 h with h | h
    · exact .inr h
    · exact .inl (List.mem_singleton.1 h)
theorem mem_lookG {x : ν} (h : lookM l a = some x) : (a, x) ∈ l := by
  unfold lookM at h
  obtain ⟨y, hy, rfl⟩ := Option.map_eq_some_iff.1 h
  have h1 := List.find?_some hy
  have h2 := List.mem_of_find?_eq_some hy
  have h3 : y.1 = a := by simpa using h1
  rw [← h3]; exact h2
theorem look_noneG : lookM l a = none ↔ a ∉ l.map (·.1) := by
  unfold lookM
  rw [Option.map_eq_none_iff, List.find?_eq_none]
  constructor
  · intro h hm
    obtain ⟨y, hy, rfl⟩ := List.mem_map.1 hm
    exact h y hy (by simp)
  · intro h y hy he
    have h3 : y.1 = a := by simpa using he
    exact h (h3 ▸ List.mem_map_of_mem hy)
theorem look_memG (hn : (l.map (·.1)).Nodup) {x : ν} (h : (a, x) ∈ l) : lookM l a = some x := by
  induction l with
  | nil => simp at h
  | cons y l ih =>
    rw [List.map_cons, List.nodup_cons] at hn
    rcases List.mem_cons.1 h with rfl | h
    · simp [lookM]
    · have hne : y.1 ≠ a := fun e => hn.1 (e ▸ List.mem_map_of_mem (f := (·.1)) h)
      have := ih hn.2 h
      unfold lookM at this ⊢
      rw [List.find?_cons_of_neg (by simpa using hne)]
      exact this
theorem keys_putG : (putM l a v).map (·.1) = if a ∈ l.map (·.1) then l.map (·.1) else l.map (·.1) ++ [a] := by
  unfold putM
  split
  · rw [List.map_map]
    refine List.map_congr_left fun y _ => ?_
    show (if y.1 = a then (a, v) else y).1 = y.1
    split
    · rename_i e; exact e.symm
    · rfl
  · simp
theorem mem_delG {y : κ × ν} (h : y ∈ delM l a) : y ∈ l := by
  unfold delM at h
  split at h
  · exact h
  · exact List.mem_of_mem_eraseIdx h
end
theorem denC_put {L : List (Int × PlX)} {i : Int} {X : PlX} {w : World} (h : (denC L).ok w) (hX : okX w X) : (denC (putM L i X)).ok w := fun y hy => by
  rcases mem_putG hy with rfl | hy
  · exact hX
  · exact h y hy
theorem denC_putF {L : List (Int × PlX)} {i : Int} {X : PlX} {b : Nat} (h : (denC (putM L i X)).fp b) : (denC L).fp b ∨ fpX X b := by
  obtain ⟨y, hy, hf⟩ := h
  rcases mem_putG hy with rfl | hy
  · exact .inr hf
  · exact .inl ⟨y, hy, hf⟩
theorem denC_get {L : List (Int × PlX)} {i : Int} {X : PlX} {w : World} (h : (denC L).ok w) (hX : lookM L i = some X) : okX w X := h _ (mem_lookG hX)
theorem denC_getF {L : List (Int × PlX)} {i : Int} {X : PlX} {b : Nat} (hX : lookM L i = some X) (h : fpX X b) : (denC L).fp b := ⟨_, mem_lookG hX, h⟩
section
variable {w0 w : World} {A B A' : Ck} {R : List Ck}
/-- two pieces become one -/
theorem Sat.join (H : Sat w0 (A :: B :: R) w) (hA : A.ok w → B.ok w → A'.ok w) (hf : ∀ b, A'.fp b → A.fp b ∨ B.fp b) : Sat w0 (A' :: R) w := by
  have h1 := List.pairwise_cons.1 H.dis
  have h2 := List.pairwise_cons.1 h1.2
  refine ⟨H.ext, fun C hC => ?_, List.pairwise_cons.2 ⟨fun C hC b hb hc => ?_, h2.2⟩⟩
  · rcases List.mem_cons.1 hC with rfl | hC
    · exact hA (H.all _ (by simp)) (H.all _ (by simp))
    · exact H.all _ (by simp [hC])
  · rcases hf b hb with h | h
    · exact h1.1 C (by simp [hC]) b h hc
    · exact h2.1 C hC b h hc
end
/-- a new place -/
theorem den_new {w0 w : World} {R : List Ck} {L : List (Int × PlX)} {i : Int} {X : PlX} {nb : Nat} (H : Sat w0 (denC L :: mapC nb (Value.int .i64) denV X.D :: R) w) (hd : X.p.dm = some nb) (ho : X.p.oa = none ∧ X.p.ol = 0 ∧ X.p.oc = 0 ∧ X.pay = []) : Sat w0 (denC (putM L i X) :: R) w := by
  have hp : payC X = rowC 5 1 (.slice none 0 0) 0 [] := by unfold payC; rw [ho.1, ho.2.1, ho.2.2.1, ho.2.2.2]; rfl
  refine H.join (fun h1 h2 => denC_put h1 ⟨⟨nb, hd, h2⟩, ?_⟩) fun b hb => ?_
  · rw [hp]; exact World.ownsRow_nil _ 0 _ _
  · rcases denC_putF hb with h | h | h
    · exact .inl h
    · rw [hd] at h; cases h; exact .inr rfl
    · rw [hp] at h; cases h
/-- a place's denials anew -/
theorem den_count {w0 w : World} {R : List Ck} {L : List (Int × PlX)} {i : Int} {X X' : PlX} {nb : Nat} (H : Sat w0 (denC L :: mapC nb (Value.int .i64) denV X'.D :: R) w) (hX : lookM L i = some X) (hd : X'.p.dm = some nb) (ho : payC X' = payC X) : Sat w0 (denC (putM L i X') :: R) w := by
  refine H.join (fun h1 h2 => denC_put h1 ⟨⟨nb, hd, h2⟩, by rw [ho]; exact (denC_get h1 hX).2⟩) fun b hb => ?_
  rcases denC_putF hb with h | h | h
  · exact .inl h
  · rw [hd] at h; cases h; exact .inr rfl
  · rw [ho] at h; exact .inl (denC_getF hX (.inr h))
/-- a place's opening -/
theorem den_open {w0 w : World} {R : List Ck} {L : List (Int × PlX)} {i : Int} {X X' : PlX} (H : Sat w0 (denC L :: payC X' :: R) w) (hX : lookM L i = some X) (hd : X'.p.dm = X.p.dm) (hD : X'.D = X.D) : Sat w0 (denC (putM L i X') :: R) w := by
  refine H.join (fun h1 h2 => denC_put h1 ⟨?_, h2⟩) fun b hb => ?_
  · rw [hd, hD]; exact (denC_get h1 hX).1
  · rcases denC_putF hb with h | h | h
    · exact .inl h
    · rw [hd] at h; exact .inl (denC_getF hX (.inl h))
    · exact .inr h
/-- a place of which something else turns -/
theorem den_same {w0 w : World} {G : List Ck} {L : List (Int × PlX)} {i : Int} {X X' : PlX} (H : Sat w0 G w) (k : Nat) (hk : G[k]? = some (denC L)) (hX : lookM L i = some X) (hd : X'.p.dm = X.p.dm) (hD : X'.D = X.D) (ho : payC X' = payC X) : Sat w0 (G.set k (denC (putM L i X'))) w :=
  H.conv k hk (fun h1 => denC_put h1 (by have q := denC_get h1 hX; exact ⟨by rw [hd, hD]; exact q.1, by rw [ho]; exact q.2⟩)) fun b hb => by
    rcases denC_putF hb with h | h | h
    · exact h
    · rw [hd] at h; exact denC_getF hX (.inl h)
    · rw [ho] at h; exact denC_getF hX (.inr h)
theorem den_del {w0 w : World} {G : List Ck} {L : List (Int × PlX)} {i : Int} (H : Sat w0 G w) (k : Nat) (hk : G[k]? = some (denC L)) : Sat w0 (G.set k (denC (delM L i))) w :=
  H.conv k hk (fun h1 y hy => h1 y (mem_delG hy)) fun _ ⟨y, hy, hf⟩ => ⟨y, mem_delG hy, hf⟩
/-- places in memory -/
def rvL (r mb : Nat) (F C rep : Int) (L : List (Int × PlX)) : List Ck := [cellC r 86 [.int .i64 F, .int .i64 C, .int .i64 rep, .map (some mb)], mapC mb (Value.int .i64) encX L, denC L]
end Go.Proofs.Ytoiplcicbjimlaa
