/- WHAT IS PROVED: names, spots, entries as data; when denials and tombstones are right, in plain words. Conditions: stated with each. -/
import Derived.Test.YtenihpghfdcpkaaDenyT
import Derived.Test.YtenihpghfdcpkaaPBook
import Derived.Test.YtenihpghfdcpkaaOfR
import Derived.Test.YtenihpghfdcpkaaRightD
namespace Go.Proofs.Ytenihpghfdcpkaa
open Go.RowKit
def withinV (v n : Int) : Int := if n < 1 then 0 else v % n
theorem within_lim (v n : Int) (h : 1 ≤ n) : 0 ≤ withinV v n ∧ withinV v n < n := by
  unfold withinV; rw [if_neg (by omega)]
  exact ⟨Int.emod_nonneg _ (by omega), Int.emod_lt_of_pos _ (by omega)⟩
structure NmD where
  cl : Int
  sq : Int
deriving DecidableEq
def encNm (x : NmD) : List Value := [.int .i64 x.cl, .int .i64 x.sq]
theorem encNm_len (x : NmD) : (encNm x).length = 2 := rfl
theorem encNm_one (x : NmD) : (encNm x).all (·.oneCell') = true := rfl
def nm0 : NmD := ⟨0, 0⟩
def smallN (x : NmD) : NmD := ⟨withinV x.cl 3, 1 + withinV x.sq 4⟩
structure SpotD where
  i : Int
  cl : Int
  sq : Int
  h : Hash
  t : Int
def encSp (x : SpotD) : List Value := [.int .i64 x.i, .int .i64 x.cl, .int .i64 x.sq] ++ hc x.h ++ [.int .u64 x.t]
theorem encSp_len (x : SpotD) : (encSp x).length = 36 := by simp [encSp, hc_len]
theorem encSp_one (x : SpotD) : (encSp x).all (·.oneCell') = true := by
  simp only [encSp, List.all_append, hc_eq]
  simp [Value.oneCell', byteV]
def spot0 : SpotD := ⟨0, 0, 0, hash0, 0⟩
structure EntD where
  cl : Int
  sq : Int
  h : Hash
  t : Int
def encEn (x : EntD) : List Value := [.int .i64 x.cl, .int .i64 x.sq] ++ hc x.h ++ [.int .u64 x.t]
theorem encEn_len (x : EntD) : (encEn x).length = 35 := by simp [encEn, hc_len]
theorem encEn_one (x : EntD) : (encEn x).all (·.oneCell') = true := by
  simp only [encEn, List.all_append, hc_eq]
  simp [Value.oneCell', byteV]
def ent0 : EntD := ⟨0, 0, hash0, 0⟩
def entV (x : EntD) : Value := .agg ⟨encEn x⟩
def nmV (x : NmD) : Value := .agg ⟨encNm x⟩
/-- the places that are open in every world of batches -/
def spotAt (i : Nat) : SpotD := ⟨2 * (i : Int), i, 50, shaR (ofT i 50 hash0 [UInt8.ofNat (i : Int).toNat]), 1⟩
def spotsN (n : Nat) : List SpotD := (List.range n).map spotAt
def namesN (n : Nat) : List NmD := (List.range n).map fun (i : Nat) => (⟨(i : Int), 50⟩ : NmD)
theorem spotsN_succ (n : Nat) : spotsN (n + 1) = spotsN n ++ [spotAt n] := by unfold spotsN; rw [List.range_succ, List.map_append]; rfl
theorem namesN_succ (n : Nat) : namesN (n + 1) = namesN n ++ [⟨(n : Int), 50⟩] := by unfold namesN; rw [List.range_succ, List.map_append]; rfl
theorem spotsN_len (n : Nat) : (spotsN n).length = n := by simp [spotsN]
theorem namesN_len (n : Nat) : (namesN n).length = n := by simp [namesN]
theorem take_smallN (P : List NmD) {j : Nat} (h : j < P.length) : (P.take (j + 1)).map smallN = (P.take j).map smallN ++ [smallN (P.getD j nm0)] := by
  rw [List.take_add_one, List.getElem?_eq_getElem h, List.map_append, List.getD_eq_getElem?_getD, List.getElem?_eq_getElem h]; rfl
def rightDn (F : Int) (B : List Signed) (d : DenyD) : Bool := inB F d.r && decide (0 ≤ d.i) && decide (d.sb = d.r) && rightB B d.sb d.sm (denyB d.r d.i)
def tombAt (F : Int) (B : List Signed) (ix : Int) (D : List DenyD) (i : Nat) : Bool := (!decide ((i : Int) > 0) || !decide ((D.getD i deny0).r ≤ (D.getD (i - 1) deny0).r)) && decide ((D.getD i deny0).i = ix) && rightDn F B (D.getD i deny0)
def rightTb (F : Int) (B : List Signed) (ix : Int) (D : List DenyD) : Bool := (List.range D.length).all (tombAt F B ix D) && decide ((D.length : Int) = 2 * F + 1)
def DnOk (d : DenyD) : Prop := d.r ≤ 9223372036854775807 ∧ d.i ≤ 9223372036854775807
end Go.Proofs.Ytenihpghfdcpkaa
