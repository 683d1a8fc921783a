/- WHAT IS PROVED: places that are waited for, as data; slices.Clone of bytes: a contract. Conditions: stated with each. -/
import Derived.Test.YtoiplcicbjimlaaOfP
import Derived.Test.YtoiplcicbjimlaaObj
import Derived.Shelf.SlicesE.Clone
namespace Go.Proofs.Ytoiplcicbjimlaa
open Go.RowKit
structure PlaceD where
  n1 : Int
  n2 : Int
  h : Hash
  t : Int
  since : Int
  oi : Int
  oa : Option Addr
  ol : Nat
  oc : Nat
  on : Hash
  acked : Bool
  denied : Bool
  dm : Option Nat
def encP (p : PlaceD) : Value := .agg ⟨[.int .i64 p.n1, .int .i64 p.n2] ++ hc p.h ++ [.int .u64 p.t, .int .u64 p.since, .int .i64 p.oi, .slice p.oa p.ol p.oc] ++ hc p.on ++ [.bool p.acked, .bool p.denied, .map p.dm]⟩
def place0 : PlaceD := ⟨0, 0, hash0, 0, 0, 0, none, 0, 0, hash0, false, false, none⟩
theorem zeroP (w : World) : (zeroValue 89).run Try.prog w = .ok (encP place0) w := by kernel_rfl
theorem look_one {ν : Type} (a : Int) (v : ν) : lookM [(a, v)] a = some v := by simp [lookM]
theorem look_other {ν : Type} {a b : Int} (v : ν) (h : b ≠ a) : lookM [(a, v)] b = none := by simp [lookM, Ne.symm h]
theorem put_one {ν : Type} (a : Int) (v u : ν) : putM [(a, v)] a u = [(a, u)] := by simp [putM]
theorem put_none {ν : Type} (a : Int) (v : ν) : putM ([] : List (Int × ν)) a v = [(a, v)] := by simp [putM]
def cloneL_ren : Go.Shelf.Ren := ⟨fun | 41 => 34 | n => n, fun | 22 => 22 | 23 => 5 | 4 => 4 | n => n, fun | n => n⟩
theorem cloneL : Go.Proofs.SlLaysE0.n41 Try.prog cloneL_ren := {
  mixed := by kernel_rfl,
  f41 := ⟨Try.f34.name, by decide, Try.func34.trans (congrArg some (by kernel_rfl))⟩,
  t4 := Try.underlying4,
  a4 := Try.isAgg4,
  z4 := Try.sizeOf4,
  v4 := Try.zeroValue4,
  t22 := Try.underlying22,
  a22 := Try.isAgg22,
  z22 := Try.sizeOf22,
  v22 := Try.zeroValue22 }
/-- slices.Clone of bytes of a call's own: new bytes -/
theorem cloneB_any (w : World) (v : Value) (s : List UInt8) (hs : (rowC 5 1 v s.length (s.flatMap encB)).ok w) (hl : s.length ≤ 1000000) : Calls Try.prog 34 #[v] w fun e w' => ∃ u, e = .returned u ∧ (rowC 5 1 u s.length (s.flatMap encB)).ok w' ∧ Upd [] w w' ∧ ∀ b, (rowC 5 1 u s.length (s.flatMap encB)).fp b → w.heap.size ≤ b := by
  have hfl : (s.flatMap encB).length = s.length * 1 := flat_len encB 1 encB_len s
  obtain ⟨i, z, _, h1, h2, h3, h4, h5, h6⟩ := rowTy_at (P := Try.prog) (T := 22) (e := 5) (size := 1) (bytes := 1) (by kernel_rfl)
  have hs' := hs
  rcases hs.2 with ⟨rfl, h0⟩ | ⟨g, c, cur, rfl, _⟩
  · obtain rfl := List.eq_nil_of_length_eq_zero h0
    exact (AnyE.slices_Clone_nil (P := Try.prog) cloneL 0 0 w).mono fun e w' ⟨he, hw⟩ => ⟨_, he, World.ownsRow_nil _ 0 _ _, hw ▸ Upd.refl _ _, fun b hb => by simp [rowC, Value.ownBlock] at hb⟩
  · refine (AnyE.slices_Clone (P := Try.prog) cloneL i z 1 1 h1 h2 h3 h4 h5 h6 Try.sizeOf5 g 0 s.length c (s.flatMap encB) w hfl (by unfold maxLen; omega) (by omega) (fun j u hu => by rw [Nat.zero_add]; exact row_cell hs' rfl hu) (fun u hu => List.all_eq_true.1 (flat_one encB encB_one s) u hu)).mono fun e w' ⟨v', he, hr, _, hb⟩ => ⟨v', he, ?_, Below.upd hb, ?_⟩
    · refine ⟨hr.1, ?_⟩
      rcases hr.2 with h | ⟨g', cap, cur', e1, _, r⟩
      · exact .inl h
      · exact .inr ⟨g', cap, cur', e1, Nat.zero_le _, r⟩
    · intro b hb2
      rcases hr.2 with ⟨rfl, _⟩ | ⟨g', cap, cur', rfl, hge, _⟩
      · simp [rowC, Value.ownBlock] at hb2
      · simp only [rowC, Value.ownBlock, Option.some.injEq] at hb2; omega
end Go.Proofs.Ytoiplcicbjimlaa
