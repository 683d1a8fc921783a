/- WHAT IS PROVED: acts among a law's arguments, with bytes of their own. Conditions: stated with each. -/
import Derived.Test.YtjcoeokmoibppaaFrame
import Derived.Test.YtjcoeokmoibppaaRef03
import Derived.Test.YtjcoeokmoibppaaIns
namespace Go.Proofs.Ytjcoeokmoibppaa
open Go.ChangeShapes Go.WideShapes Go.ChangeAt Go.RowKit Go.Deep
structure ActT where
  d : Int
  p : Int
  sb : Int
  sm : Int
  a : Option Addr
  c : Nat
  s : List UInt8
def actT0 : ActT := ⟨0, 0, 0, 0, none, 0, []⟩
def encT (x : ActT) : List Value := [.int .i64 x.d, .int .i64 x.p, .int .i64 x.sb, .int .i64 x.sm, .slice x.a x.s.length x.c]
theorem encT_len (x : ActT) : (encT x).length = 5 := rfl
theorem encT_one (x : ActT) : (encT x).all (·.oneCell') = true := rfl
theorem copyOf_bytes {w0 w : World} {s : List UInt8} {u : Value} (h : CopyOf w0 s u w) : BytesAt w u s := list_bytes (ListAt.row encB_len (by decide) h.row.1)
theorem slice_addr {va : Option Addr} {n c n' c' : Nat} {ad : Addr} (h : Value.slice va n c = .slice (some ad) n' c') : va = some ad := by
  simp only [Value.slice.injEq] at h; exact h.1
theorem ListAt.nowD {α : Type} {enc : α → List Value} {sz : Nat} {w0 w W : World} {G : List Ck} {D : Nat → Prop} (H : Sat w0 G w) (j : Nat) (hj : G[j]? = Option.some (restC W D)) {a : Option Addr} {n c : Nat} {xs : List α} (hv : ListAt enc sz W (.slice a n c) xs) (hf : 0 < xs.length → ∀ ad, a = some ad → ¬ D ad.block) : ListAt enc sz w (.slice a n c) xs := by
  rcases hv with h | ⟨h0, b', o, c', e, hc, h⟩
  · exact .inl h
  · have ha := slice_addr e
    refine .inr ⟨h0, b', o, c', e, hc, fun i hi q u hq => ?_⟩
    have h1 := h i hi q u hq
    rw [Addr.add_lit] at h1 ⊢
    exact H.cellR j hj h1 (show ¬ D b' from hf h0 _ ha)
theorem list_off {α : Type} {enc : α → List Value} {sz : Nat} (hs : ∀ x, (enc x).length = sz) (h0 : 0 < sz) {W w : World} {G : List Ck} (H : Sat W G w) (is : List Nat) (j : Nat) {B : List Ck} (hB : (is.filterMap fun i => G[i]?) = B) (hj : G[j]? = some (restC W fun _ => False)) (hne : is.all (fun i => !Nat.beq i j) = true) {va : Option Addr} {n vc : Nat} {ls : List α} (hv : ListAt enc sz W (.slice va n vc) ls) : 0 < ls.length → ∀ a, va = some a → ¬ (sepC B).fp a.block := by
  intro h1 a ha hfp
  obtain ⟨vb, vo, vc', hva, hvs⟩ := hv.cells hs h0 h1
  have h2 := slice_addr hva
  rw [h2] at ha
  obtain rfl := (Option.some.inj ha)
  have hl : 0 < (ls.flatMap enc).length := by rw [flat_len enc sz hs]; exact Nat.mul_pos h1 h0
  have hc := hvs 0 _ (List.getElem?_eq_getElem hl)
  rw [Addr.add_lit] at hc
  have hlt := World.block_lt_of_cell? W _ hc
  subst hB
  obtain ⟨A, hA, hAf⟩ := hfp
  obtain ⟨i, hi, he⟩ := List.mem_filterMap.1 hA
  have hij : Nat.beq i j = false := by simpa using List.all_eq_true.1 hne i hi
  exact H.apart i j he hj hij _ hAf ⟨hlt, fun h => h⟩
section
variable {H : Type} {enc : TypeId × Value → H} {W : World}
theorem field_cells {P : Program} {t : TypeId} {fs : Array Field} {n : Nat} {cs : List Value} {y : DataW H × List MemPlace} (ht : P.underlying t = some (.struct fs)) (h : DataW.trod enc P W 0 (fun _ => true) true n t cs = some y) :
    ∃ m, ∀ (i : Nat) (g : Field), fs[i]? = some g → ∃ z, DataW.trod enc P W 0 (fun _ => true) true m g.type ((cs.drop g.offset).take (P.cellsOf g.type)) = some z := by
  obtain ⟨xs, m, _, _, _, hx, hf⟩ := DataW.trod_struct ht h
  refine ⟨m, fun i g hg => ?_⟩
  have h1 := hf i g hg
  have hi : i < xs.length := by
    rw [hx]
    obtain ⟨h, _⟩ := Array.getElem?_eq_some_iff.1 hg
    exact h
  rw [List.getElem?_eq_getElem hi] at h1
  exact ⟨_, h1⟩
theorem act_cells {n : Nat} {cs : List Value} {y : DataW H × List MemPlace} (hl : cs.length = 5) (h : DataW.trod enc Try.prog W 0 (fun _ => true) true n 56 cs = some y) : ∃ x : ActT, cs = encT x ∧ ListAt encB 1 W (.slice x.a x.s.length x.c) x.s := by
  obtain ⟨m, hf⟩ := field_cells Try.underlying56 h
  obtain ⟨z0, h0⟩ := hf 0 _ rfl
  obtain ⟨z1, h1⟩ := hf 1 _ rfl
  obtain ⟨z2, h2⟩ := hf 2 _ rfl
  obtain ⟨z3, h3⟩ := hf 3 _ rfl
  match cs, hl with
  | [c0, c1, c2, c3, c4], _ =>
    obtain ⟨d, e0, _⟩ := trod_int_cell (k := .i64) (by kernel_rfl) h0
    obtain ⟨p, e1, _⟩ := trod_int_cell (k := .i64) (by kernel_rfl) h1
    obtain ⟨m2, hf2⟩ := field_cells Try.underlying30 h2
    obtain ⟨y0, g0⟩ := hf2 0 _ rfl
    obtain ⟨y1, g1⟩ := hf2 1 _ rfl
    obtain ⟨sb, e2, _⟩ := trod_int_cell (k := .i64) (by kernel_rfl) g0
    obtain ⟨sm, e3, _⟩ := trod_int_cell (k := .i64) (by kernel_rfl) g1
    have h3' : DataW.trod enc Try.prog W 0 (fun _ => true) true m 27 [c4] = some z3 := h3
    obtain ⟨a, len, cap, e4⟩ := trod_slice_shape Try.underlying27 h3'
    obtain ⟨s, hs⟩ := open_u8s (W := W) (P := Try.prog) Try.underlying27 Try.underlying5 (by kernel_rfl) ⟨a, len, cap, rfl⟩ ⟨m, by rw [show (Value.slice a len cap).cells.toList = [.slice a len cap] from rfl, ← e4]; exact h3'⟩
    have hs' := bytes_list hs
    obtain ⟨a', c', e5⟩ := hs'.len
    simp only [Value.slice.injEq] at e5
    obtain ⟨rfl, rfl, rfl⟩ := e5
    refine ⟨⟨d, p, sb, sm, a, cap, s⟩, ?_, hs'⟩
    have e0' : [c0] = [Value.int .i64 d] := e0
    have e1' : [c1] = [Value.int .i64 p] := e1
    have e2' : [c2] = [Value.int .i64 sb] := e2
    have e3' : [c3] = [Value.int .i64 sm] := e3
    simp only [List.cons.injEq, and_true] at e0' e1' e2' e3' e4
    simp [encT, e0', e1', e2', e3', e4]
theorem open_actT {v : Value} {d : DataW H} {ps : List MemPlace} (hv : ∃ a len cap, v = .slice a len cap) (h : DataW.Trod enc Try.prog W 0 (fun _ => true) true 40 v d ps) : ∃ xs, (∀ x ∈ xs, ListAt encB 1 W (.slice x.a x.s.length x.c) x.s) ∧ ListAt encT 5 W v xs := by
  obtain ⟨xs, hx⟩ := open_sliceOf (sz := 5) (R := fun w a (x : ActT) => RunAt w a (encT x) ∧ ListAt encB 1 W (.slice x.a x.s.length x.c) x.s) Try.underlying40 (by kernel_rfl) (by omega) hv h (fun cs n y b off hl hcs hy => by
    obtain ⟨x, rfl, hs⟩ := act_cells hl hy
    refine ⟨x, fun j v hj => ?_, hs⟩
    obtain ⟨hj', rfl⟩ := List.getElem?_eq_some_iff.1 hj
    rw [Addr.add_lit]; exact hcs j hj')
  refine ⟨xs, fun n hn => ?_, SliceOf.imp hx fun a x h => h.1⟩
  obtain ⟨i, hi, rfl⟩ := List.mem_iff_getElem.1 hn
  obtain ⟨b, off, cap, _, _, hall⟩ := hx.some (by omega)
  exact (hall i hi).2
end
end Go.Proofs.Ytjcoeokmoibppaa
