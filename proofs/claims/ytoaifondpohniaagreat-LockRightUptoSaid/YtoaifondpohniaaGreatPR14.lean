/- WHAT IS PROVED: contracts and plain laws of TimeE, StrMap, EntD, EntM, Eqs, Strs, EntE, Flats, FrameU, OpenC10, ActD, OpenA11, Dt16, ArrB. Conditions: stated with each. -/
import Derived.ChangeKeysEq
import Derived.Laws.IdiomStrings
import Derived.Laws.MakeOwn
import Derived.Test.YtoaifondpohniaaGreatPR03
import Derived.Test.YtoaifondpohniaaGreatPR04
import Derived.Test.YtoaifondpohniaaGreatPR05
import Derived.Test.YtoaifondpohniaaGreatPR06
import Derived.Test.YtoaifondpohniaaGreatPR07
import Derived.Test.YtoaifondpohniaaGreatPR08
import Derived.Test.YtoaifondpohniaaGreatPR11
import Derived.Test.YtoaifondpohniaaGreatPR13
set_option maxHeartbeats 4000000
set_option maxRecDepth 100000
namespace Go.Proofs.YtoaifondpohniaaGreat
open Go.RowKit
abbrev Z5i (p0 : Zg) (p1 : Option Addr) (p2 : Nat) (p3 : Nat) : List Value := ([(.int .i64 p0.cl), (.int .i64 p0.seq)] : List Value) ++ hc p0.h ++ ([(.int .i64 p0.len), (.int .i64 p0.sb), (.int .i64 p0.sm), (.slice p1 p2 p3)] : List Value)
abbrev Z8U (p0 : Option Addr) (p1 : List Int) (p2 : Nat) : Ck := ZH 27 1 (.slice p0 p1.length p2) p1.length (p1.flatMap Z3s)
abbrev Z6S (p0 : Z5) : List Value := ([(.int .i64 p0.r), (.int .i64 p0.cl), (.int .i64 p0.seq)] : List Value) ++ hc p0.h ++ ([(.int .u64 p0.t), (.int .i64 p0.sb), (.int .i64 p0.sm)] : List Value)
abbrev Zbj : List Value := ([(.int .i64 (0)), (.int .i64 (0)), (.int .i64 (0))] : List Value) ++ hc Z0d ++ ([(.int .u64 (0)), (.int .i64 (0)), (.int .i64 (0))] : List Value)
theorem Z5W (w : World) (x : Zg) (sa : Option Addr) (sc : Nat) (S : List Z5) (hS : ListAt Z0J 38 w (.slice sa S.length sc) S) (hlS : S.length ≤ 12) :
  Calls Tryz.prog 31 #[(.agg ⟨(([(.int .i64 (x.cl)), (.int .i64 (x.seq))] : List Value) ++ hc x.h ++ ([(.int .i64 (x.len)), (.int .i64 (x.sb)), (.int .i64 (x.sm)), (.slice sa S.length sc)] : List Value))⟩)] w fun e w' => e = .returned (.int .u64 (ZK S)) ∧ Upd [] w w' := by
 have H := Sat.start0 w
 refine Zp Tryz.func31 rfl 27 rfl (Nat.le_of_ble_eq_true rfl) ?_
 apply zsl
 refine zwd fun Kq kq => ?_
 refine zdb (Z5i x sa S.length sc) H ?_
 intro b2 w3 H4
 refine kq _ _ ?_
 clear kq Kq
 refine wv 2 (.int .u64 (0)) ?_
 apply Z1y
 refine wv 3 (.slice none 0 0) ?_
 apply znt
 apply Zt
 apply zsl
 refine wv 8 (pt b2 37) ?_
 refine zw1 9 (.slice sa S.length sc) (H4.cell 1 rfl (by kernel_rfl)) ?_
 refine wv 10 (.int .i64 ((S.length : Int))) ?_
 refine wv 11 (.int .i64 (0)) ?_
 apply znt
 apply ZG
 have H5 := H4.addNil 27 1
 refine Z02 ([3, 5] ++ List.range' 11 10) (fun F_ W_ m_ => ∃ (i : Nat) (a : Option Addr) (c : Nat) (D : List Int), F_ 11 = (.int .i64 ((i : Int))) ∧ F_ 3 = (.slice a D.length c) ∧ (i ≤ S.length) ∧ (D = Z32 (S.take i)) ∧ Sat w [Z6 w (fun _ => False), Z0 b2 53 (Z5i x sa S.length sc), (Z8U a D c)] W_ ∧ m_ = S.length - i) _ ⟨0, none, 0, [], (show ((.int .i64 (0)) : Value) = _ by first | rfl | go_num), (by first | rfl | go_num), (Nat.zero_le _), rfl, H5, rfl⟩ ?_
 rintro g6 w7 _ ⟨i, a, c, D, v9, v10, hi, hD, H8, rfl⟩
 refine ZF 11 _ v9 ?_
 refine ZF 3 _ v10 ?_
 have hDl : D.length = i := by rw [hD, Z4C, List.length_take]; omega
 apply zsl
 refine wv 12 (.bool (decide ((i : Int) < (S.length : Int)))) ?_
 apply znt
 apply Zt
 refine (Zl (decide ((i : Int) < (S.length : Int)))).elim (fun b12 => ?_) (fun b12 => ?_)
 ·have g13 := of_decide_eq_true b12
  refine Z1o _ b12 ?_
  apply ZL
  apply ztn
  apply Zt
  apply ZG
  apply zsl
  obtain ⟨g15, o16, c17, e18, R19⟩ := SliceOf.atD hS Z9 (show i < S.length by omega)
  refine wv 13 (.pointer (some ⟨g15, o16 + ((i : Int)).toNat * 38, none⟩)) ?_ (hr := ZC (E := 101) (by kernel_rfl) (by kernel_rfl) (Nat.le_of_ble_eq_true rfl) rfl e18 rfl (by omega) (by omega))
  refine wv 14 (.agg ⟨(Z6S (S.getD i Z9))⟩) ?_ (hr := Z0f (vs := (Z6S (S.getD i Z9))) rfl (by kernel_rfl) (by kernel_rfl) (Nat.le_of_ble_eq_true (by kernel_rfl)) (H8.runR 0 rfl (Z10 R19 0 (by kernel_rfl) (show o16 + ((i : Int)).toNat * 38 = o16 + i * 38 + 0 by omega)) (fun h => h)))
  refine zwd fun Kq kq => ?_
  refine zda (Zbj) H8 ?_
  intro b21 w22 H23
  refine kq _ _ ?_
  clear kq Kq
  refine zwd fun Kq kq => ?_
  refine Z2k (Z6S (S.getD i Z9)) H23 3 ?_
  intro w25 H26
  refine kq _ _ ?_
  clear kq Kq
  apply znt
  apply ZU
  refine wv 15 (.slice a D.length c) ?_
  refine wv 16 (pt b21 35) ?_
  refine zw1 17 (.int .u64 ((S.getD i Z9).t)) (H26.cell 3 rfl (by kernel_rfl)) ?_
  refine zwd fun Kq kq => ?_
  refine Z3o 27 1 8 (.int .u64 (0)) [(0, (.int .u64 ((S.getD i Z9).t)))] ([(.int .u64 ((S.getD i Z9).t))] : List Value) H26 ?_
  intro b29 w30 H31
  have H32 := H31.ct 4 rfl (ZH 27 1 (.slice (some ⟨b29, 0, none⟩) 1 1) 1 ([(S.getD i Z9).t].flatMap Z3s)) (by rw [show (([(.int .u64 ((S.getD i Z9).t))] : List Value) : List Value) = [(S.getD i Z9).t].flatMap Z3s from rfl])
  refine kq _ _ ?_
  clear kq Kq
  refine zwd fun Kq kq => ?_
  refine Z14 (T := 48) (e := 27) (size := 1) (bytes := 8) rfl H32 (by kernel_rfl) 2 4 rfl rfl rfl rfl (Z0U Z3s Z8N [(S.getD i Z9).t]) (by omega) (by omega) ?_
  intro v34 w35 H36
  have H39 := H36.ct 2 rfl (ZH 27 1 v34 ((D ++ [(S.getD i Z9).t]).length) ((D ++ [(S.getD i Z9).t]).flatMap Z3s)) ja
  obtain ⟨a37, c38, rfl⟩ := Z1 (H39.at 2 rfl)
  refine kq _ _ ?_
  clear kq Kq
  refine wv 3 (.slice a37 ((D ++ [(S.getD i Z9).t]).length) c38) ?_
  apply ZQ
  apply Zq
  apply ztn
  apply ZU
  refine zwi 20 ((i : Int) + 1) ?_
  refine wv 11 (.int .i64 ((i : Int) + 1)) ?_
  apply ZQ
  have hDl : D.length = i := by rw [hD, Z4C, List.length_take]; omega
  have H40 := H39.pk [0, 1, 2]
  refine Zw ?_ _ ⟨(i + 1), a37, c38, (D ++ [(S.getD i Z9).t]), rfl, (show ((.slice a37 ((D ++ [(S.getD i Z9).t]).length) c38) : Value) = _ by first | rfl | go_num), (by omega), (by rw [hD, Z6t S (by omega)]), H40, rfl⟩ (by omega)
  exact zs
 have g41 := of_decide_eq_false b12
 refine Z18 _ b12 ?_
 apply zxb
 apply ztn
 apply zsl
 refine wv 22 (.slice a D.length c) ?_
 refine zwd fun Kq kq => ?_
 refine zdq 23 (Zbs w7 (.slice a D.length c) D (ListAt.row (enc := Z3s) (sz := 1) Z27 (by decide) (H8.at 2 rfl)) (by omega)) H8 ?_
 intro w44 H45
 refine kq _ _ ?_
 clear kq Kq
 refine wv 21 (.tuple #[(.int .u64 (Z4R D)), (.bool (decide (D.length % 2 = 1)))]) ?_
 refine wv 24 (.int .u64 (Z4R D)) ?_
 refine wv 25 (.bool (decide (D.length % 2 = 1))) ?_
 refine wv 6 (.int .u64 (Z4R D)) ?_
 refine wv 7 (.bool (decide (D.length % 2 = 1))) ?_
 apply Z1y
 refine wv 26 (.int .u64 (Z4R D)) ?_
 refine wv 2 (.int .u64 (Z4R D)) ?_
 apply znt
 apply ZA
 refine ze1 (.int .u64 (Z4R D)) ?_
 have hT : D = Z32 S := by rw [hD, List.take_of_length_le (by omega)]
 exact ⟨by unfold ZK; rw [← hT], H45.upd 0 rfl [] (fun _ h => h.elim)⟩
theorem Z2d (w : World) (x : Zg) (sa : Option Addr) (sc : Nat) (S : List Z5) (hS : ListAt Z0J 38 w (.slice sa S.length sc) S) (hlS : S.length ≤ 12) :
  Calls Tryz.prog 42 #[(.agg ⟨(([(.int .i64 (x.cl)), (.int .i64 (x.seq))] : List Value) ++ hc x.h ++ ([(.int .i64 (x.len)), (.int .i64 (x.sb)), (.int .i64 (x.sm)), (.slice sa S.length sc)] : List Value))⟩)] w fun e w' => e = .returned (.int .u64 (ZK S)) ∧ Upd [] w w' := by
 have H := Sat.start0 w
 refine Zp Tryz.func42 rfl 29 rfl (Nat.le_of_ble_eq_true rfl) ?_
 apply zsl
 refine zwd fun Kq kq => ?_
 refine zdb (Z5i x sa S.length sc) H ?_
 intro b2 w3 H4
 refine kq _ _ ?_
 clear kq Kq
 refine wv 2 (.int .u64 (0)) ?_
 apply Z1y
 refine wv 3 (.slice none 0 0) ?_
 apply znt
 apply Zt
 apply zsl
 refine wv 7 (pt b2 37) ?_
 refine zw1 8 (.slice sa S.length sc) (H4.cell 1 rfl (by kernel_rfl)) ?_
 refine wv 9 (.int .i64 ((S.length : Int))) ?_
 refine wv 10 (.int .i64 (0)) ?_
 apply znt
 apply ZG
 have H5 := H4.addNil 27 1
 refine Z02 ([3, 4] ++ List.range' 10 13) (fun F_ W_ m_ => ∃ (i : Nat) (a : Option Addr) (c : Nat) (D : List Int), F_ 10 = (.int .i64 ((i : Int))) ∧ F_ 3 = (.slice a D.length c) ∧ (i ≤ S.length) ∧ (D = Z32 (S.take i)) ∧ Sat w [Z6 w (fun _ => False), Z0 b2 53 (Z5i x sa S.length sc), (Z8U a D c)] W_ ∧ m_ = S.length - i) _ ⟨0, none, 0, [], (show ((.int .i64 (0)) : Value) = _ by first | rfl | go_num), (by first | rfl | go_num), (Nat.zero_le _), rfl, H5, rfl⟩ ?_
 rintro g6 w7 _ ⟨i, a, c, D, v9, v10, hi, hD, H8, rfl⟩
 refine ZF 10 _ v9 ?_
 refine ZF 3 _ v10 ?_
 have hDl : D.length = i := by rw [hD, Z4C, List.length_take]; omega
 apply zsl
 refine wv 11 (.bool (decide ((i : Int) < (S.length : Int)))) ?_
 apply znt
 apply Zt
 refine (Zl (decide ((i : Int) < (S.length : Int)))).elim (fun b12 => ?_) (fun b12 => ?_)
 ·have g13 := of_decide_eq_true b12
  refine Z1o _ b12 ?_
  apply ZL
  apply ztn
  apply Zt
  apply ZG
  apply zsl
  refine wv 12 (.int .i64 ((i : Int))) ?_
  refine wv 4 (.int .i64 ((i : Int))) ?_
  apply znt
  apply ZU
  refine wv 13 (.slice a D.length c) ?_
  refine wv 14 (pt b2 37) ?_
  refine zw1 15 (.slice sa S.length sc) (H8.cell 1 rfl (by kernel_rfl)) ?_
  refine wv 16 (.int .i64 ((i : Int))) ?_
  obtain ⟨g15, o16, c17, e18, R19⟩ := SliceOf.atD hS Z9 (show i < S.length by omega)
  refine wv 17 (.pointer (some ⟨g15, o16 + ((i : Int)).toNat * 38, none⟩)) ?_ (hr := ZC (E := 101) (by kernel_rfl) (by kernel_rfl) (Nat.le_of_ble_eq_true rfl) rfl e18 rfl (by omega) (by omega))
  refine wv 18 (.pointer (some ⟨g15, o16 + ((i : Int)).toNat * 38 + 35, none⟩)) ?_
  refine zw1 19 (.int .u64 ((S.getD i Z9).t)) (H8.cellR 0 rfl (Z13 R19 35 (by kernel_rfl) (show o16 + ((i : Int)).toNat * 38 + 35 = o16 + i * 38 + 35 by omega)) (fun h => h)) ?_
  refine zwd fun Kq kq => ?_
  refine Z3o 27 1 8 (.int .u64 (0)) [(0, (.int .u64 ((S.getD i Z9).t)))] ([(.int .u64 ((S.getD i Z9).t))] : List Value) H8 ?_
  intro b21 w22 H23
  have H24 := H23.ct 3 rfl (ZH 27 1 (.slice (some ⟨b21, 0, none⟩) 1 1) 1 ([(S.getD i Z9).t].flatMap Z3s)) (by rw [show (([(.int .u64 ((S.getD i Z9).t))] : List Value) : List Value) = [(S.getD i Z9).t].flatMap Z3s from rfl])
  refine kq _ _ ?_
  clear kq Kq
  refine zwd fun Kq kq => ?_
  refine Z14 (T := 48) (e := 27) (size := 1) (bytes := 8) rfl H24 (by kernel_rfl) 2 3 rfl rfl rfl rfl (Z0U Z3s Z8N [(S.getD i Z9).t]) (by omega) (by omega) ?_
  intro v26 w27 H28
  have H31 := H28.ct 2 rfl (ZH 27 1 v26 ((D ++ [(S.getD i Z9).t]).length) ((D ++ [(S.getD i Z9).t]).flatMap Z3s)) ja
  obtain ⟨a29, c30, rfl⟩ := Z1 (H31.at 2 rfl)
  refine kq _ _ ?_
  clear kq Kq
  refine wv 3 (.slice a29 ((D ++ [(S.getD i Z9).t]).length) c30) ?_
  apply ZQ
  apply Zq
  apply ztn
  apply ZU
  refine zwi 22 ((i : Int) + 1) ?_
  refine wv 10 (.int .i64 ((i : Int) + 1)) ?_
  apply ZQ
  have hDl : D.length = i := by rw [hD, Z4C, List.length_take]; omega
  have H32 := H31.pk [0, 1, 2]
  refine Zw ?_ _ ⟨(i + 1), a29, c30, (D ++ [(S.getD i Z9).t]), rfl, (show ((.slice a29 ((D ++ [(S.getD i Z9).t]).length) c30) : Value) = _ by first | rfl | go_num), (by omega), (by rw [hD, Z6t S (by omega)]), H32, rfl⟩ (by omega)
  exact zs
 have g33 := of_decide_eq_false b12
 refine Z18 _ b12 ?_
 apply zxb
 apply ztn
 apply zsl
 refine wv 24 (.slice a D.length c) ?_
 refine zwd fun Kq kq => ?_
 refine zdq 25 (Zbt w7 (.slice a D.length c) D (ListAt.row (enc := Z3s) (sz := 1) Z27 (by decide) (H8.at 2 rfl)) (by omega)) H8 ?_
 intro w36 H37
 refine kq _ _ ?_
 clear kq Kq
 refine wv 23 (.tuple #[(.int .u64 (Z4R D)), (.bool (decide (D.length % 2 = 1)))]) ?_
 refine wv 26 (.int .u64 (Z4R D)) ?_
 refine wv 27 (.bool (decide (D.length % 2 = 1))) ?_
 refine wv 5 (.int .u64 (Z4R D)) ?_
 refine wv 6 (.bool (decide (D.length % 2 = 1))) ?_
 apply Z1y
 refine wv 28 (.int .u64 (Z4R D)) ?_
 refine wv 2 (.int .u64 (Z4R D)) ?_
 apply znt
 apply ZA
 refine ze1 (.int .u64 (Z4R D)) ?_
 have hT : D = Z32 S := by rw [hD, List.take_of_length_le (by omega)]
 exact ⟨by unfold ZK; rw [← hT], H37.upd 0 rfl [] (fun _ h => h.elim)⟩
def delM {κ ν : Type} [DecidableEq κ] (l : List (κ × ν)) (a : κ) : List (κ × ν) := match (l.map (·.1)).idxOf? a with | none => l | some i => l.eraseIdx i
section
variable {κ ν : Type} [DecidableEq κ] {encK : κ → Value} {encV : ν → Value} {P : Program} {k : TypeId} {w : World} {b : Nat} {l : List (κ × ν)}
end
section
variable {P : Program} {Q : Exit → Act → World → Prop} {n : Nat} {f : Nat → Value} {w0 w : World} {G : List Ck} {dst : Option Tmp} {ty : TypeId} {pos : String} {aft : Array Edge} {gd : Option (Nat × Bool)} {K' : Act → World → Prop}
end
structure CeR where
 x : Zg
 sa : Option Addr
 sc : Nat
 S : List Z5
def Z0h (c : CeR) : List Value := Z61 c.x ++ [.slice c.sa c.S.length c.sc]
theorem ZZ (c : CeR) : (Z0h c).length = 38 := by simp [Z0h, Z61, hc_len]
theorem Z3r (c : CeR) : (Z0h c).all (·.oneCell') = true := by
 simp only [Z0h, Z61, List.all_append, Z8a]
 simp [Value.oneCell', Z42]
def ce0 : CeR := ⟨⟨0, 0, Z0d, 0, 0, 0⟩, none, 0, []⟩
structure PrR where
 r : Int
 e : Int
 f : Int
 ca : Option Addr
 cc : Nat
 sb : Int
 sm : Int
 C : List CeR
def encPr (p : PrR) : List Value := [.int .i64 p.r, .int .i64 p.e, .int .u64 p.f, .slice p.ca p.C.length p.cc, .int .i64 p.sb, .int .i64 p.sm]
def pr0 : PrR := ⟨0, 0, 0, none, 0, 0, 0, []⟩
def CeOk (w : World) (c : CeR) : Prop := ListAt Z0J 38 w (.slice c.sa c.S.length c.sc) c.S
def PrOk (w : World) (p : PrR) : Prop := ListAt Z0h 38 w (.slice p.ca p.C.length p.cc) p.C ∧ ∀ c ∈ p.C, CeOk w c
def Z6a (x : NmD) : Prop := (0 ≤ x.cl ∧ x.cl < 3) ∧ 1 ≤ x.sq ∧ x.sq ≤ 4
def CeSm (c : CeR) : Prop := Z6a ⟨c.x.cl, c.x.seq⟩ ∧ c.S.length ≤ 12 ∧ Zb0 c.S
def ZaY (e : Z9F) : NmD := ⟨e.cl, e.sq⟩
def aheadE (a b : Z9F) : Bool := decide (a.t < b.t) || (decide (a.t = b.t) && lessB a.h b.h)
abbrev ZcH := List (NmD × Z9F)
def skipE (last tm : Int) (lg : NmD → Bool) (e : Z9F) : Bool := decide (e.t ≤ last) || decide (e.t > tm) || lg (ZaY e)
def stepE (last tm : Int) (lg : NmD → Bool) (M : ZcH) (e : Z9F) : ZcH :=
 if skipE last tm lg e = true then M else match ZV M (ZaY e) with
  | none => Z4d M (ZaY e) e
  | some was => if aheadE e was = true then Z4d M (ZaY e) e else M
section
variable {last tm : Int} {lg : NmD → Bool} {M : ZcH} {e : Z9F} {L : List CeR} {c : CeR}
structure EOk (M : ZcH) : Prop where
 nd : (M.map (·.1)).Nodup
 nm : ∀ x ∈ M, x.1 = ZaY x.2
 sm : ∀ x ∈ M, Z6a x.1
end
section
variable {κ ν : Type} [DecidableEq κ] {l : List (κ × ν)} {a : κ} {v : ν}
theorem Z8W {y : κ × ν} (h : y ∈ Z4d l a v) : y = (a, v) ∨ y ∈ l := by
 unfold Z4d at h
 split at h
 ·obtain ⟨z, hz, e⟩ := List.mem_map.1 h
  split at e
  ·exact .inl e.symm
  ·exact .inr (e ▸ hz)
 ·rcases List.mem_append.1 h with h | h
  ·exact .inr h
  ·exact .inl (List.mem_singleton.1 h)
theorem Z5G {x : ν} (h : ZV l a = some x) : (a, x) ∈ l := by
 unfold ZV at h
 obtain ⟨y, hy, rfl⟩ := Option.map_eq_some_iff.1 h
 have h1 := List.find?_some hy
 have h2 := List.mem_of_find?_eq_some hy
 have h3 : y.1 = a := by simpa using h1
 rw [← h3]; exact h2
theorem Z4Q : ZV l a = none ↔ a ∉ l.map (·.1) := by
 unfold ZV
 rw [Option.map_eq_none_iff, List.find?_eq_none]
 constructor
 ·intro h hm
  obtain ⟨y, hy, rfl⟩ := List.mem_map.1 hm
  exact h y hy (by simp)
 ·intro h y hy he
  have h3 : y.1 = a := by simpa using he
  exact h (h3 ▸ List.mem_map_of_mem hy)
theorem Zao : (Z4d l a v).map (·.1) = if a ∈ l.map (·.1) then l.map (·.1) else l.map (·.1) ++ [a] := by
 unfold Z4d
 split
 ·rw [List.map_map]
  refine List.map_congr_left fun y _ => ?_
  show (if y.1 = a then (a, v) else y).1 = y.1
  split
  ·rename_i e; exact e.symm
  ·rfl
 ·simp
end
theorem Z5H : ∀ (n : Nat) (l : List Nat), l.Nodup → (∀ x ∈ l, x < n) → l.length ≤ n
 | 0, l, _, h => by
  cases l with
  | nil => simp
  | cons x l => exact absurd (h x (by simp)) (Nat.not_lt_zero _)
 | n + 1, l, hn, h => by
  have ih := Z5H n (l.erase n) (hn.erase n) fun x hx => by
   have h1 := (List.Nodup.mem_erase_iff hn).1 hx
   have h2 := h x h1.2
   have := h1.1
   omega
  by_cases hm : n ∈ l
  ·have := List.length_erase_of_mem hm; omega
  ·rw [List.erase_of_not_mem hm] at ih; omega
section
variable {last tm : Int} {lg : NmD → Bool} {M : ZcH} {e : Z9F} {L : List CeR} {c : CeR}
theorem EOk.nil : EOk [] := ⟨List.nodup_nil, by simp, by simp⟩
theorem EOk.put (h : EOk M) (hs : Z6a (ZaY e)) : EOk (Z4d M (ZaY e) e) := by
 refine ⟨?_, fun x hx => ?_, fun x hx => ?_⟩
 ·rw [Zao]
  split
  ·exact h.nd
  ·rename_i q
   rw [List.nodup_append]
   exact ⟨h.nd, by simp, fun a ha b hb e => by rw [List.mem_singleton.1 hb] at e; exact q (e ▸ ha)⟩
 ·rcases Z8W hx with rfl | hx
  ·rfl
  ·exact h.nm x hx
 ·rcases Z8W hx with rfl | hx
  ·exact hs
  ·exact h.sm x hx
theorem EOk.step (h : EOk M) (hs : Z6a (ZaY e)) : EOk (stepE last tm lg M e) := by
 unfold stepE
 split
 ·exact h
 ·split
  ·exact h.put hs
  ·split
   ·exact h.put hs
   ·exact h
theorem EOk.len (h : EOk M) : M.length ≤ 12 := by
 have hm := Z5H 12 ((M.map (·.1)).map fun x => (x.cl * 4 + (x.sq - 1)).toNat) ?_ ?_
 ·simpa using hm
 ·rw [List.Nodup, List.pairwise_map]
  refine List.Pairwise.imp_of_mem ?_ h.nd
  intro a b ha hb hne e
  obtain ⟨x, hx, rfl⟩ := List.mem_map.1 ha
  obtain ⟨y, hy, rfl⟩ := List.mem_map.1 hb
  have hx' := h.sm x hx
  have hy' := h.sm y hy
  unfold Z6a at hx' hy'
  apply hne
  have h1 : x.1.cl = y.1.cl := by omega
  have h2 : x.1.sq = y.1.sq := by omega
  cases hx1 : x.1; cases hy1 : y.1
  simp_all
 ·intro z hz
  obtain ⟨a, ha, rfl⟩ := List.mem_map.1 hz
  obtain ⟨x, hx, rfl⟩ := List.mem_map.1 ha
  have := h.sm x hx
  unfold Z6a at this
  omega
theorem EOk.inj (h : EOk M) : ∀ a ∈ M.map (·.2), ∀ b ∈ M.map (·.2), ZaY a = ZaY b → a = b := fun a ha b hb e => by
 obtain ⟨x, hx, rfl⟩ := List.mem_map.1 ha
 obtain ⟨y, hy, rfl⟩ := List.mem_map.1 hb
 have e2 : x.1 = y.1 := by rw [h.nm x hx, h.nm y hy, e]
 obtain ⟨i, hi, hxi⟩ := List.mem_iff_getElem.1 hx
 obtain ⟨j, hj, hyj⟩ := List.mem_iff_getElem.1 hy
 have key : i = j := by
  have hp := List.pairwise_iff_getElem.1 h.nd
  rcases Nat.lt_trichotomy i j with q | q | q
  ·exact absurd (by rw [List.getElem_map, List.getElem_map, hxi, hyj, e2]) (hp i j (by simpa using hi) (by simpa using hj) q)
  ·exact q
  ·exact absurd (by rw [List.getElem_map, List.getElem_map, hxi, hyj, e2]) (hp j i (by simpa using hj) (by simpa using hi) q)
 subst key
 rw [← hxi, ← hyj]
end
section
variable {last tm : Int} {lg : NmD → Bool} {M M' : ZcH} {A C : List CeR} {P : List PrR} {i k : Nat} {w : World}
theorem Z1r (h : k < C.length) : C.getD k ce0 ∈ C := by
 rw [List.getD_eq_getElem?_getD, List.getElem?_eq_getElem h]; exact List.getElem_mem h
theorem Za6 (h : i < P.length) : P.getD i pr0 ∈ P := by
 rw [List.getD_eq_getElem?_getD, List.getElem?_eq_getElem h]; exact List.getElem_mem h
def PSm (P : List PrR) : Prop := ∀ p ∈ P, ∀ c ∈ p.C, CeSm c
theorem PSm.at (h : PSm P) (hi : i < P.length) (hk : k < (P.getD i pr0).C.length) : CeSm ((P.getD i pr0).C.getD k ce0) := h _ (Za6 hi) _ (Z1r hk)
theorem PSm.all (h : PSm P) : ∀ c ∈ P.flatMap (·.C), CeSm c := fun c hc => by
 obtain ⟨p, hp, hc⟩ := List.mem_flatMap.1 hc
 exact h p hp c hc
variable {LM : List (NmD × Bool)} {lg : NmD → Bool} {c : CeR} {v : Z9F}
end
section
variable {P : Program} {t : TypeId} {X : Type} [DecidableEq X]
variable {enc : X → List Value}
end
section
variable {P : Program} {n : Nat} {f : Nat → Value} {w : World} {dst : Option Tmp} {ty : TypeId} {pos : String} {aft : Array Edge} {gd : Option (Nat × Bool)}
end
instance : DecidableEq Z9F := fun a b =>
 if h : a.cl = b.cl ∧ a.sq = b.sq ∧ a.h = b.h ∧ a.t = b.t then .isTrue (by cases a; cases b; simp_all) else .isFalse (fun e => h (by rw [e]; simp))
theorem ZaL (a b : Int) : Instr.sameBits 10000 (.agg ⟨[.int .i64 a, .int .i64 b]⟩) (.agg ⟨[.int .i64 a, .int .i64 b]⟩) = true := by simp [Instr.sameBits]
theorem nmK : KeyTy Tryz.prog 24 nmV := KeyTy.deep (by kernel_rfl) (fun w em a => by cases em <;> kernel_rfl) (fun w x y => by
 simp only [Op.equal, Op.maxDepth, nmV, Z1A]
 simp [go_sem]
 obtain ⟨x1, x2⟩ := x
 obtain ⟨y1, y2⟩ := y
 by_cases h1 : x1 = y1 <;> by_cases h2 : x2 = y2 <;> simp_all) (fun a => ZaL _ _)
theorem Zb4 {n : Nat} {f : Nat → Value} {w : World} {dst : Option Tmp} {ty : TypeId} {pos : String} {aft : Array Edge} {gd : Option (Nat × Bool)} {x y : Operand} {T : TypeId} (a b c d : Int) (hx : ev n f x = .agg ⟨[.int .i64 a, .int .i64 b]⟩) (hy : ev n f y = .agg ⟨[.int .i64 c, .int .i64 d]⟩) :
  (execOp (ev n f) ⟨dst, .binOp .eql 24 x y T, ty, pos, aft, gd⟩).run Tryz.prog w = .ok (.value (.bool (decide (a = c ∧ b = d)))) w := by
 simp only [execOp, hx, hy]
 simp [go_sem]
 by_cases h1 : a = c <;> by_cases h2 : b = d <;> simp_all
instance : DecidableEq Z5 := fun a b =>
 if h : a.r = b.r ∧ a.cl = b.cl ∧ a.seq = b.seq ∧ a.h = b.h ∧ a.t = b.t ∧ a.sb = b.sb ∧ a.sm = b.sm then .isTrue (by cases a; cases b; simp_all) else .isFalse (fun e => h (by rw [e]; simp))
instance : DecidableEq Zg := fun a b =>
 if h : a.cl = b.cl ∧ a.seq = b.seq ∧ a.h = b.h ∧ a.len = b.len ∧ a.sb = b.sb ∧ a.sm = b.sm then .isTrue (by cases a; cases b; simp_all) else .isFalse (fun e => h (by rw [e]; simp))
instance : DecidableEq DenyD := fun a b =>
 if h : a.r = b.r ∧ a.i = b.i ∧ a.sb = b.sb ∧ a.sm = b.sm then .isTrue (by cases a; cases b; simp_all) else .isFalse (fun e => h (by rw [e]; simp))
end Go.Proofs.YtoaifondpohniaaGreat
namespace Go.Proofs.YtoaifondpohniaaGreat
open Go.ChangeShapes Go.WideShapes Go.ChangeAt Go.RowKit Go.Deep
section
variable {H : Type} {enc : TypeId × Value → H} {P : Program} {W : World}
theorem Z6u {z : Int} (h : (Lit.int .u64 z).wf = true) : 0 ≤ z ∧ z ≤ 18446744073709551615 := by
 simpa [Lit.wf, IntKind.min, IntKind.max, IntKind.signed, IntKind.bits] using h
def Z9E (w : World) (a : Addr) (x : Int) : Prop := w.cell? a = some (.int .u64 x)
theorem ZaC {t e : TypeId} (ht : P.underlying t = some (.slice e)) (he : P.underlying e = some (.int .u64)) (hc : P.cellsOf e = 1) {v : Value} {d : DataW H} {ps : List MemPlace} (hv : ∃ a len cap, v = .slice a len cap)
  (h : DataW.Trod enc P W 0 (fun _ => true) true t v d ps) : ∃ xs, (∀ x ∈ xs, 0 ≤ x ∧ x ≤ 18446744073709551615) ∧ ListAt Z3s 1 W v xs := by
 obtain ⟨xs, hx⟩ := Z3v (R := fun w a x => Z9E w a x ∧ 0 ≤ x ∧ x ≤ 18446744073709551615) ht hc (by omega) hv h (fun cs n y b off hl hcs hy => by
  obtain ⟨z, rfl, hz⟩ := Z08 he hy
  exact ⟨z, hcs 0 (by simp), Z6u hz⟩)
 refine ⟨xs, fun n hn => ?_, SliceOf.imp hx fun a x h j u hj => ?_⟩
 ·obtain ⟨i, hi, rfl⟩ := List.mem_iff_getElem.1 hn
  obtain ⟨b, off, cap, _, _, hall⟩ := hx.some (by omega)
  exact (hall i hi).2
 ·match j, hj with
  | 0, hj =>
   simp only [Z3s, List.getElem?_cons_zero, Option.some.injEq] at hj
   subst hj
   have := h.1
   obtain ⟨b, o, s⟩ := a
   unfold Z9E at this
   have e : (⟨b, o, s⟩ : Addr).add 0 = ⟨b, o, s⟩ := by cases s <;> simp [Addr.add]
   rw [e]; exact this
  | _ + 1, hj => simp [Z3s] at hj
end
section
variable {H : Type} {enc : TypeId × Value → H} {W : World}
theorem Z22 {P : Program} {t : TypeId} {fs : Array Field} {n : Nat} {cs : List Value} {y : DataW H × List MemPlace} (ht : P.underlying t = some (.struct fs)) (h : DataW.trod enc P W 0 (fun _ => true) true n t cs = some y) :
  cs.length = P.cellsOf t ∧ ∃ m, ∀ (i : Nat) (g : Field), fs[i]? = some g → ∃ z, DataW.trod enc P W 0 (fun _ => true) true m g.type ((cs.drop g.offset).take (P.cellsOf g.type)) = some z := by
 obtain ⟨xs, m, _, _, hl, hx, hf⟩ := DataW.trod_struct ht h
 refine ⟨hl, m, fun i g hg => ?_⟩
 have h1 := hf i g hg
 have hi : i < xs.length := by
  rw [hx]
  obtain ⟨h, _⟩ := Array.getElem?_eq_some_iff.1 hg
  exact h
 rw [List.getElem?_eq_getElem hi] at h1
 exact ⟨_, h1⟩
theorem ZY {cs A rest : List Value} {o n : Nat} (h : (cs.drop o).take n = A) (hr : cs.drop (o + n) = rest) : cs.drop o = A ++ rest := by
 rw [← h, ← hr, ← List.drop_drop, List.take_append_drop]
theorem Z2B {cs : List Value} {n : Nat} (h : cs.length = n) : cs.drop n = [] := by rw [← h, List.drop_length]
theorem Z4T {t i : TypeId} {f g : Field} {n : Nat} {cs : List Value} {y : DataW H × List MemPlace} (ht : Tryz.prog.underlying t = some (.struct #[f, g])) (hi : Tryz.prog.underlying i = some (.int .i64)) (hf : f.type = i) (hg : g.type = i) (of : f.offset = 0) (og : g.offset = 1) (hc : Tryz.prog.cellsOf i = 1) (hn : Tryz.prog.cellsOf t = 2)
  (h : DataW.trod enc Tryz.prog W 0 (fun _ => true) true n t cs = some y) : ∃ a b : Int, cs = [.int .i64 a, .int .i64 b] ∧ (-9223372036854775808 ≤ a ∧ a ≤ 9223372036854775807) ∧ (-9223372036854775808 ≤ b ∧ b ≤ 9223372036854775807) := by
 obtain ⟨hl, m, hq⟩ := Z22 ht h
 obtain ⟨z0, h0⟩ := hq 0 _ rfl
 obtain ⟨z1, h1⟩ := hq 1 _ rfl
 simp only [List.getElem_toArray, List.getElem_cons_zero, List.getElem_cons_succ, hf, hg, of, og, hc] at h0 h1
 obtain ⟨a, e0, w0⟩ := Z08 (k := .i64) hi h0
 obtain ⟨b, e1, w1⟩ := Z08 (k := .i64) hi h1
 refine ⟨a, b, ?_, Z5X w0, Z5X w1⟩
 have := ZY e0 (ZY e1 (Z2B (hl.trans hn)))
 simpa using this
theorem Z3L {n : Nat} {cs : List Value} {y : DataW H × List MemPlace} (h : DataW.trod enc Tryz.prog W 0 (fun _ => true) true n 24 cs = some y) : ∃ a b : Int, cs = [.int .i64 a, .int .i64 b] ∧ (-9223372036854775808 ≤ a ∧ a ≤ 9223372036854775807) ∧ (-9223372036854775808 ≤ b ∧ b ≤ 9223372036854775807) :=
 Z4T Tryz.underlying24 Tryz.underlying3 rfl rfl rfl rfl (by kernel_rfl) (by kernel_rfl) h
theorem Z4B {n : Nat} {cs : List Value} {y : DataW H × List MemPlace} (h : DataW.trod enc Tryz.prog W 0 (fun _ => true) true n 29 cs = some y) : ∃ a b : Int, cs = [.int .i64 a, .int .i64 b] ∧ (-9223372036854775808 ≤ a ∧ a ≤ 9223372036854775807) ∧ (-9223372036854775808 ≤ b ∧ b ≤ 9223372036854775807) :=
 Z4T Tryz.underlying29 Tryz.underlying3 rfl rfl rfl rfl (by kernel_rfl) (by kernel_rfl) h
theorem Z9I {v : Value} {cs : List Value} (hv : ∃ ws, v = .agg ws) (h : v.cells.toList = cs) : v = .agg ⟨cs⟩ := by
 obtain ⟨⟨l⟩, rfl⟩ := hv
 simp only [Value.cells] at h; rw [h]
theorem ZaB {v : Value} {d : DataW H} {ps : List MemPlace} (hv : ∃ cs, v = .agg cs) (h : DataW.Trod enc Tryz.prog W 0 (fun _ => true) true 36 v d ps) : ∃ f c : Int, v = .agg ⟨[.int .i64 f, .int .i64 c]⟩ := by
 obtain ⟨fuel, h⟩ := h
 obtain ⟨a, b, e, _⟩ := Z4T Tryz.underlying36 Tryz.underlying3 rfl rfl rfl rfl (by kernel_rfl) (by kernel_rfl) h
 exact ⟨a, b, Z9I hv e⟩
end
end Go.Proofs.YtoaifondpohniaaGreat
namespace Go.Proofs.YtoaifondpohniaaGreat
open Go.RowKit
structure Zc9 where
 d : Int
 f : Int
 t : Int
 u : Int
 n : NmD
 ta : Option Addr
 tc : Nat
 xs : List Int
 X : CeR
def ac0 : Zc9 := ⟨0, 0, 0, 0, nm0, none, 0, [], ce0⟩
def Z9Y (a : Zc9) : List Value := [.int .i64 a.d, .int .i64 a.f, .int .u64 a.t, .int .u64 a.u, .int .i64 a.n.cl, .int .i64 a.n.sq, .slice a.ta a.xs.length a.tc] ++ Z0h a.X
end Go.Proofs.YtoaifondpohniaaGreat
namespace Go.Proofs.YtoaifondpohniaaGreat
open Go.ChangeShapes Go.WideShapes Go.ChangeAt Go.RowKit Go.Deep
section
variable {H : Type} {enc : TypeId × Value → H} {W : World}
end
end Go.Proofs.YtoaifondpohniaaGreat

namespace Go.Proofs.YtoaifondpohniaaGreat
open Go.RowKit
section
variable {g T n : Nat} {A : List Bool} {w w0 w' : World} {G : List Ck}
end
section
variable {P : Program} {n : Nat} {f : Nat → Value} {w w0 : World} {dst : Option Tmp} {ty : TypeId} {pos : String} {aft : Array Edge} {gd : Option (Nat × Bool)} {K : Act → World → Prop} {Q : Exit → Act → World → Prop} {G : List Ck}
end
section
variable {κ ν : Type} [DecidableEq κ] {P : Program} {n : Nat} {f : Nat → Value} {w w0 : World} {dst : Option Tmp} {ty : TypeId} {pos : String} {aft : Array Edge} {gd : Option (Nat × Bool)} {Q : Exit → Act → World → Prop} {G : List Ck} {T kt et : TypeId} {b : Nat} {encK : κ → Value} {encV : ν → Value} {l : List (κ × ν)}
end
theorem Z7k (a : Bool) : ∀ (es : List MapEntry) (ks : List Bool) (n : Nat), es.map (·.key) = ks.map Value.bool →
  Instr.findNow .bool (.bool a) es n = some ((ks.idxOf? a).bind fun i => (es[i]?).map fun e => (n + i, e.val)) := by
 intro es
 induction es with
 | nil => intro ks n h; cases ks <;> simp_all [Instr.findNow]
 | cons e es ih =>
  intro ks n h
  cases ks with
  | nil => simp at h
  | cons x ks =>
   simp only [List.map_cons, List.cons.injEq] at h
   obtain ⟨h1, h2⟩ := h
   by_cases hax : a = x
   ·subst hax
    simp [Instr.findNow, h1, Instr.sameNow, List.idxOf?_cons]
   ·have hx : (x == a) = false := by simp; exact fun h => hax h.symm
    have hx' : (a == x) = false := by simpa using hax
    simp only [Instr.findNow, h1, Instr.sameNow, hx', ih ks (n + 1) h2, List.idxOf?_cons, hx, Bool.false_eq_true, if_false]
    cases hi : ks.idxOf? a with
    | none => simp
    | some i => simp [Nat.add_assoc, Nat.add_comm 1 i]
theorem KeyTy.bool {P : Program} {k : TypeId} (hk : P.underlying k = some .bool) : KeyTy P k Value.bool where
 check w em a := MapKept.run_checkKey (d := .bool) hk (by simp [MapKept.IsKey]) em 9999
 find w a es ks h := by
  simp [Instr.findKey, run_underlying hk, Z7k a es ks 0 h]
 same a := by simp [Instr.sameBits]
end Go.Proofs.YtoaifondpohniaaGreat
