/- WHAT IS PROVED: plain laws of BatchTombs: when a tombstone of a quorum's denials is right. Conditions: stated with each. -/
import Derived.Test.YtenihpghfdcpkaaBatA
import Derived.Test.YtenihpghfdcpkaaRowSt
namespace Go.Proofs.Ytenihpghfdcpkaa
open Go.RowKit
theorem rightB_in {L : List Signed} {p m : Int} {s : List UInt8} (h : (⟨p, s⟩ : Signed) ∈ L) : rightB L p m s = decide (m = markOf L ⟨p, s⟩) := by
  have := markOf_pos h
  unfold rightB
  exact decide_eq_decide.2 ⟨fun h => h.2.symm, fun h => ⟨by omega, h.symm⟩⟩
/-- the first cell of a denial in a list is another one -/
theorem flat_setR : ∀ (L : List DenyD) (i : Nat) (v : Int), i < L.length → splice (L.flatMap encDn) (i * 4) [Value.int .i64 v] = (L.set i ⟨v, (L.getD i deny0).i, (L.getD i deny0).sb, (L.getD i deny0).sm⟩).flatMap encDn
  | [], i, _, h => by simp at h
  | y :: L, 0, v, _ => by simp [splice, encDn]
  | y :: L, i + 1, v, h => by
    have ih := flat_setR L i v (by simpa using h)
    have e : (i + 1) * 4 = (encDn y).length + i * 4 := by rw [encDn_len]; omega
    simp only [List.flatMap_cons, List.set_cons_succ, List.getD_cons_succ, ← ih, splice]
    rw [e, List.take_append, List.take_of_length_le (by omega), Nat.add_sub_cancel_left, List.drop_append, List.drop_of_length_le (by omega), List.nil_append, List.append_assoc, List.append_assoc, List.append_assoc]
    rw [show (encDn y).length + i * 4 + ([Value.int .i64 v] : List Value).length - (encDn y).length = i * 4 + ([Value.int .i64 v] : List Value).length by omega]
def ixAt (ix wh at_ : Int) (j : Nat) : Int := if wh = 1 ∧ (j : Int) = at_ then ix + 1 else ix
def yAt (ix wh at_ : Int) (j : Nat) : Signed := ⟨(j : Int), denyB (j : Int) (ixAt ix wh at_ j)⟩
def mkAt (L : List Signed) (ix wh at_ : Int) (j : Nat) : Int := if wh = 2 ∧ (j : Int) = at_ then markOf L (yAt ix wh at_ j) + 99 else markOf L (yAt ix wh at_ j)
/-- the denials that were made so far -/
structure TbW (L : List Signed) (ix wh at_ : Int) (r : Nat) (D : List DenyD) : Prop where
  len : D.length = r
  all : ∀ j, j < r → yAt ix wh at_ j ∈ L ∧ D.getD j deny0 = ⟨(j : Int), ixAt ix wh at_ j, (j : Int), mkAt L ix wh at_ j⟩
section
variable {L : List Signed} {ix wh at_ F : Int} {r : Nat} {D : List DenyD}
theorem TbW.start (L : List Signed) (ix wh at_ : Int) : TbW L ix wh at_ 0 [] := ⟨rfl, fun j h => absurd h (Nat.not_lt_zero _)⟩
theorem TbW.more (h : TbW L ix wh at_ r D) {L' : List Signed} {d : DenyD} (hL : L' = signL L (yAt ix wh at_ r)) (hd : d = ⟨(r : Int), ixAt ix wh at_ r, (r : Int), mkAt L' ix wh at_ r⟩) : TbW L' ix wh at_ (r + 1) (D ++ [d]) := by
  refine ⟨by simp [h.len], fun j hj => ?_⟩
  rcases Nat.lt_or_ge j r with hlt | hge
  · obtain ⟨h1, h2⟩ := h.all j hlt
    have e : (D ++ [d]).getD j deny0 = D.getD j deny0 := by
      rw [List.getD_eq_getElem?_getD, List.getD_eq_getElem?_getD, List.getElem?_append_left (by rw [h.len]; exact hlt)]
    have hm : mkAt L' ix wh at_ j = mkAt L ix wh at_ j := by unfold mkAt; rw [hL, markOf_signL h1]
    exact ⟨by rw [hL]; exact signL_sub h1, by rw [e, h2, hm]⟩
  · obtain rfl : j = r := by omega
    refine ⟨by rw [hL]; exact signL_mem _ _, ?_⟩
    rw [List.getD_eq_getElem?_getD, List.getElem?_append_right (by rw [h.len]; exact Nat.le_refl _), h.len, Nat.sub_self]
    exact hd
theorem mk_right (h : yAt ix wh at_ r ∈ L) (hF : (r : Int) < 3 * F + 1) (hix : 0 ≤ ix) : rightDn F L ⟨(r : Int), ixAt ix wh at_ r, (r : Int), mkAt L ix wh at_ r⟩ = !(decide (wh = 2) && decide ((r : Int) = at_)) := by
  have hi : 0 ≤ ixAt ix wh at_ r := by unfold ixAt; split <;> omega
  have hb : rightB L (r : Int) (mkAt L ix wh at_ r) (denyB (r : Int) (ixAt ix wh at_ r)) = decide (mkAt L ix wh at_ r = markOf L (yAt ix wh at_ r)) := rightB_in h
  unfold rightDn inB
  simp only [hb]
  rw [decide_eq_true (show (0 : Int) ≤ (r : Int) by omega), decide_eq_true hF, decide_eq_true hi]
  simp only [Bool.true_and, decide_true]
  unfold mkAt
  by_cases h1 : wh = 2
  · by_cases h2 : (r : Int) = at_
    · rw [if_pos ⟨h1, h2⟩, decide_eq_false (show ¬ markOf L (yAt ix wh at_ r) + 99 = markOf L (yAt ix wh at_ r) by omega), decide_eq_true h1, decide_eq_true h2]; rfl
    · rw [if_neg (fun q => h2 q.2), decide_eq_true rfl, decide_eq_false h2]; simp
  · rw [if_neg (fun q => h1 q.1), decide_eq_true rfl, decide_eq_false h1]; rfl
theorem TbW.right (h : TbW L ix wh at_ r D) (hF : (r : Int) ≤ 3 * F + 1) (hix : 0 ≤ ix) {j : Nat} (hj : j < r) : rightDn F L (D.getD j deny0) = !(decide (wh = 2) && decide ((j : Int) = at_)) := by
  obtain ⟨h1, h2⟩ := h.all j hj
  rw [h2]; exact mk_right h1 (by omega) hix
theorem TbW.ok (h : TbW L ix wh at_ r D) (hr : r ≤ 1000) (hx : 0 ≤ ix ∧ ix ≤ 1000) : ∀ i, i < D.length → DnOk (D.getD i deny0) := fun i hi => by
  have hj : i < r := by rw [← h.len]; exact hi
  obtain ⟨h1, h2⟩ := h.all i hj
  rw [h2]; unfold DnOk ixAt
  constructor
  · simp only; omega
  · simp only; split <;> omega
theorem TbW.whole (h : TbW L ix wh at_ r D) (hw : wh = 0) (hr : (r : Int) = 2 * F + 1) (hF : 0 ≤ F) (hix : 0 ≤ ix) : rightTb F L ix D = true := by
  unfold rightTb
  rw [h.len, decide_eq_true hr, Bool.and_true]
  refine all_upto fun j hj => ?_
  have h0 : rightDn F L (D.getD j deny0) = true := by rw [h.right (by omega) hix hj, decide_eq_false (show ¬ wh = 2 by omega)]; rfl
  have hi : (D.getD j deny0).i = ix := by rw [(h.all j hj).2]; unfold ixAt; rw [if_neg (by omega)]
  unfold tombAt
  rw [h0, decide_eq_true hi, Bool.and_true, Bool.and_true]
  rcases Nat.eq_zero_or_pos j with e | e
  · subst e; rfl
  · have h1 : (D.getD j deny0).r = (j : Int) := by rw [(h.all j hj).2]
    have h2 : (D.getD (j - 1) deny0).r = ((j - 1 : Nat) : Int) := by rw [(h.all (j - 1) (by omega)).2]
    rw [h1, h2, decide_eq_false (show ¬ (j : Int) ≤ ((j - 1 : Nat) : Int) by omega)]; simp
theorem rightTb_at {j : Nat} {D : List DenyD} (hj : j < D.length) (h : tombAt F L ix D j = false) : rightTb F L ix D = false := by
  unfold rightTb; rw [all_not hj h]; rfl
theorem rightTb_len {D : List DenyD} (h : ¬ (D.length : Int) = 2 * F + 1) : rightTb F L ix D = false := by
  unfold rightTb; rw [decide_eq_false h, Bool.and_false]
theorem TbW.one (h : TbW L ix wh at_ r D) (hw : wh = 1) (ha : 0 ≤ at_ ∧ at_ < (r : Int)) : rightTb F L ix D = false := by
  obtain ⟨j, rfl⟩ : ∃ j : Nat, (j : Int) = at_ := ⟨at_.toNat, by omega⟩
  have hj : j < r := by omega
  refine rightTb_at (j := j) (by rw [h.len]; exact hj) ?_
  have hi : (D.getD j deny0).i = ix + 1 := by rw [(h.all j hj).2]; unfold ixAt; rw [if_pos ⟨hw, rfl⟩]
  unfold tombAt
  rw [decide_eq_false (show ¬ (D.getD j deny0).i = ix by omega)]; simp
theorem TbW.two (h : TbW L ix wh at_ r D) (hw : wh = 2) (hF : (r : Int) ≤ 3 * F + 1) (hix : 0 ≤ ix) (ha : 0 ≤ at_ ∧ at_ < (r : Int)) : rightTb F L ix D = false := by
  obtain ⟨j, rfl⟩ : ∃ j : Nat, (j : Int) = at_ := ⟨at_.toNat, by omega⟩
  have hj : j < r := by omega
  refine rightTb_at (j := j) (by rw [h.len]; exact hj) ?_
  unfold tombAt
  rw [h.right hF hix hj, decide_eq_true hw, decide_eq_true rfl]; simp
theorem TbW.four (h : TbW L ix wh at_ r D) {j : Nat} (hj : j < r) {d : DenyD} (hd : d.r = 3 * F + 1) : rightTb F L ix (D.set j d) = false := by
  refine rightTb_at (j := j) (by rw [List.length_set, h.len]; exact hj) ?_
  have e : (D.set j d).getD j deny0 = d := by rw [List.getD_eq_getElem?_getD, List.getElem?_set, if_pos rfl, if_pos (by rw [h.len]; exact hj)]; rfl
  unfold tombAt rightDn inB
  rw [e, hd, decide_eq_false (show ¬ 3 * F + 1 < 3 * F + 1 by omega)]; simp
end
end Go.Proofs.Ytenihpghfdcpkaa
