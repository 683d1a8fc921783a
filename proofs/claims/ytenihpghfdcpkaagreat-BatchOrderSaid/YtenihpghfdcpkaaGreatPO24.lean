/- WHAT IS PROVED: contracts and plain laws of TimeE, StrMap, EntM, Eqs, Strs, EntE, EnA, Bag. Conditions: stated with each. -/
import Derived.ChangeKeysEq
import Derived.Laws.IdiomStrings
import Derived.Test.YtenihpghfdcpkaaGreatPO02
import Derived.Test.YtenihpghfdcpkaaGreatPO03
import Derived.Test.YtenihpghfdcpkaaGreatPO04
import Derived.Test.YtenihpghfdcpkaaGreatPO05
import Derived.Test.YtenihpghfdcpkaaGreatPO08
import Derived.Test.YtenihpghfdcpkaaGreatPO13
import Derived.Test.YtenihpghfdcpkaaGreatPO14
import Derived.Test.YtenihpghfdcpkaaGreatPO18
import Derived.Test.YtenihpghfdcpkaaGreatPO20
import Derived.Test.YtenihpghfdcpkaaGreatPO23
set_option maxHeartbeats 4000000
set_option maxRecDepth 100000
namespace Go.Proofs.YtenihpghfdcpkaaGreat
open Go.RowKit
abbrev Zbg (p0 : Zg) (p1 : Option Addr) (p2 : Nat) (p3 : Nat) : List Value := ([i6 p0.cl, i6 p0.seq] : LV) ++ hc p0.h ++ ([i6 p0.len, i6 p0.sb, i6 p0.sm, (.slice p1 p2 p3)] : LV)
abbrev ZaQ (p0 : Option Addr) (p1 : List Int) (p2 : Nat) : Ck := Zh 25 1 (.slice p0 p1.length p2) p1.length (p1.flatMap Z4j)
abbrev ZeT (p0 : Z9) : List Value := ([i6 p0.r, i6 p0.cl, i6 p0.seq] : LV) ++ hc p0.h ++ ([u6 p0.t, i6 p0.sb, i6 p0.sm] : LV)
abbrev ZeI : List Value := ([i6 0, i6 0, i6 0] : LV) ++ hc ZC ++ ([u6 0, i6 0, i6 0] : LV)
theorem Z5O (w : World) (x : Zg) (sa : Option Addr) (sc : Nat) (S : List Z9) (hS : ListAt Z1T 38 w (.slice sa S.length sc) S) (hlS : S.length ≤ 12) :
  Calls Tryz.prog 57 #[(.agg ⟨(([i6 x.cl, i6 x.seq] : LV) ++ hc x.h ++ ([i6 x.len, i6 x.sb, i6 x.sm, (.slice sa S.length sc)] : LV))⟩)] w fun e w' => e = .returned (u6 (Zz S)) ∧ Upd [] w w' := by
 have H := Sat.start0 w
 refine Za Tryz.func57 rfl 27 rfl kn ?_
 let A5 := Zbg x sa S.length sc
 refine zsl <| zy <| zdb A5 H fun b2 w3 H4 => ?_
 refine kk <| wv 2 (vu 0) <| Z0G <| wv 3 (.slice none 0 0) <| znt <| Z7 <| zsl <| wv 8 (pt b2 37) <| zw1 9 (.slice sa S.length sc) (H4.cell 1 rfl kr) <| wv 10 (vi S.length) ?_
 refine wv 11 (vi 0) <| znt <| Zc ?_
 have H5 := H4.addNil 25 1
 refine Zq ([3, 5] ++ List.range' 11 10) (fun F_ W_ m_ => ∃ (i : Nat) (a : Option Addr) (c : Nat) (D : List Int), F_ 11 = (vi i) ∧ F_ 3 = (.slice a D.length c) ∧ (i ≤ S.length) ∧ (D = Z3V (S.take i)) ∧ Sat w [zR w, Z0 b2 76 A5, (ZaQ a D c)] W_ ∧ m_ = S.length - i) _ ⟨0, none, 0, [], (show ((vi 0) : Value) = _ by first | rfl | go_num), (by first | rfl | go_num), (Nat.zero_le _), rfl, H5, rfl⟩ ?_
 rintro g6 w7 _ ⟨i, a, c, D, v9, v10, hi, hD, H8, rfl⟩
 refine Ze 11 _ v9 ?_
 refine Ze 3 _ v10 ?_
 have hDl : D.length = i := by rw [hD, Z5P, List.length_take]; omega
 refine zsl <| wv 12 (.bool (decide ((i : Int) < S.length))) <| znt <| Z7 ?_
 refine zid (fun b12 g13 => ?_) fun b12 g41 => ?_
 ·refine Zm <| ztn <| Z7 <| Zc <| zsl ?_
  obtain ⟨g15, o16, c17, e18, R19⟩ := SliceOf.atD hS Zi (show i < S.length by omega)
  refine wv 13 (.pointer (some ⟨g15, o16 + ((i : Int)).toNat * 38, none⟩)) ?_ (hr := Zd (E := 149) kr kr kn rfl e18 rfl om om)
  let A2 := ZeT (S.getD i Zi)
  refine wv 14 (.agg ⟨A2⟩) ?_ (hr := ZE (vs := A2) rfl kr kr kn (H8.runR 0 rfl (Z0k R19 0 kr (show o16 + ((i : Int)).toNat * 38 = o16 + i * 38 + 0 by omega)) (fun h => h)))
  refine zy <| zda (ZeI) H8 fun b21 w22 H23 => ?_
  refine kk <| zy <| Z1p A2 H23 3 fun w25 H26 => ?_
  let A0 : Value := vu ((S.getD i Zi).t)
  refine kk <| znt <| Zl <| wv 15 (.slice a D.length c) <| wv 16 (pt b21 35) <| zw1 17 A0 (H26.cell 3 rfl kr) <| zy <| Z2J 25 1 8 (vu 0) [(0, A0)] ([A0] : LV) H26 fun b29 w30 H31 => ?_
  have H32 := H31.ct 4 rfl (Zh 25 1 (.slice (some ⟨b29, 0, none⟩) 1 1) 1 ([(S.getD i Zi).t].flatMap Z4j)) (by rw [show (([A0] : LV) : LV) = [(S.getD i Zi).t].flatMap Z4j from rfl])
  refine kk <| zy <| Z0g (T := 109) (e := 25) (size := 1) (bytes := 8) rfl H32 kr 2 4 rfl rfl rfl rfl (Z07 Z4j Zbv [(S.getD i Zi).t]) om om fun v34 w35 H36 => ?_
  have H39 := H36.ct 2 rfl (Zh 25 1 v34 ((D ++ [(S.getD i Zi).t]).length) ((D ++ [(S.getD i Zi).t]).flatMap Z4j)) ja
  obtain ⟨a37, c38, rfl⟩ := Z1 (H39.at 2 rfl)
  let A4 : Value := .slice a37 ((D ++ [(S.getD i Zi).t]).length) c38
  refine kk <| wv 3 A4 <| Zn <| Z6 <| ztn <| Zl <| zwi 20 ((i : Int) + 1) <| wv 11 (vi ((i : Int) + 1)) <| Zn ?_
  have hDl : D.length = i := by rw [hD, Z5P, List.length_take]; omega
  have H40 := H39.pk [0, 1, 2]
  refine Z5 ?_ _ ⟨(i + 1), a37, c38, (D ++ [(S.getD i Zi).t]), rfl, (show (A4 : Value) = _ by first | rfl | go_num), om, (by rw [hD, Z7S S om]), H40, rfl⟩ om
  exact zs
 refine zxb <| ztn <| zsl <| wv 22 (.slice a D.length c) <| zy <| zdq 23 (Zfi w7 (.slice a D.length c) D (ListAt.row (enc := Z4j) (sz := 1) Z2o (by decide) (H8.at 2 rfl)) om) H8 fun w44 H45 => ?_
 let A1 : Value := .bool (decide (D.length % 2 = 1))
 let A3 : Value := vu (Z9G D)
 refine kk <| wv 21 (.tuple #[A3, A1]) <| wv 24 A3 <| wv 25 A1 <| wv 6 A3 <| wv 7 A1 <| Z0G <| wv 26 A3 <| wv 2 A3 <| znt ?_
 refine Zk <| ze1 A3 ?_
 have hT : D = Z3V S := by rw [hD, List.take_of_length_le om]
 exact ⟨by unfold Zz; rw [← hT], H45.upd 0 rfl [] ne⟩
theorem Z2D (w : World) (x : Zg) (sa : Option Addr) (sc : Nat) (S : List Z9) (hS : ListAt Z1T 38 w (.slice sa S.length sc) S) (hlS : S.length ≤ 12) :
  Calls Tryz.prog 17 #[(.agg ⟨(([i6 x.cl, i6 x.seq] : LV) ++ hc x.h ++ ([i6 x.len, i6 x.sb, i6 x.sm, (.slice sa S.length sc)] : LV))⟩)] w fun e w' => e = .returned (u6 (Zz S)) ∧ Upd [] w w' := by
 have H := Sat.start0 w
 refine Za Tryz.func17 rfl 29 rfl kn ?_
 let A4 := Zbg x sa S.length sc
 refine zsl <| zy <| zdb A4 H fun b2 w3 H4 => ?_
 refine kk <| wv 2 (vu 0) <| Z0G <| wv 3 (.slice none 0 0) <| znt <| Z7 <| zsl <| wv 7 (pt b2 37) <| zw1 8 (.slice sa S.length sc) (H4.cell 1 rfl kr) <| wv 9 (vi S.length) ?_
 refine wv 10 (vi 0) <| znt <| Zc ?_
 have H5 := H4.addNil 25 1
 refine Zq ([3, 4] ++ List.range' 10 13) (fun F_ W_ m_ => ∃ (i : Nat) (a : Option Addr) (c : Nat) (D : List Int), F_ 10 = (vi i) ∧ F_ 3 = (.slice a D.length c) ∧ (i ≤ S.length) ∧ (D = Z3V (S.take i)) ∧ Sat w [zR w, Z0 b2 76 A4, (ZaQ a D c)] W_ ∧ m_ = S.length - i) _ ⟨0, none, 0, [], (show ((vi 0) : Value) = _ by first | rfl | go_num), (by first | rfl | go_num), (Nat.zero_le _), rfl, H5, rfl⟩ ?_
 rintro g6 w7 _ ⟨i, a, c, D, v9, v10, hi, hD, H8, rfl⟩
 refine Ze 10 _ v9 ?_
 refine Ze 3 _ v10 ?_
 have hDl : D.length = i := by rw [hD, Z5P, List.length_take]; omega
 refine zsl <| wv 11 (.bool (decide ((i : Int) < S.length))) <| znt <| Z7 ?_
 refine zid (fun b12 g13 => ?_) fun b12 g33 => ?_
 ·refine Zm <| ztn <| Z7 <| Zc <| zsl <| wv 12 (vi i) <| wv 4 (vi i) <| znt <| Zl <| wv 13 (.slice a D.length c) ?_
  refine wv 14 (pt b2 37) <| zw1 15 (.slice sa S.length sc) (H8.cell 1 rfl kr) <| wv 16 (vi i) ?_
  obtain ⟨g15, o16, c17, e18, R19⟩ := SliceOf.atD hS Zi (show i < S.length by omega)
  refine wv 17 (.pointer (some ⟨g15, o16 + ((i : Int)).toNat * 38, none⟩)) ?_ (hr := Zd (E := 149) kr kr kn rfl e18 rfl om om)
  let A0 : Value := vu ((S.getD i Zi).t)
  refine wv 18 (.pointer (some ⟨g15, o16 + ((i : Int)).toNat * 38 + 35, none⟩)) <| zw1 19 A0 (H8.cellR 0 rfl (Z0o R19 35 kr (show o16 + ((i : Int)).toNat * 38 + 35 = o16 + i * 38 + 35 by omega)) (fun h => h)) <| zy <| Z2J 25 1 8 (vu 0) [(0, A0)] ([A0] : LV) H8 fun b21 w22 H23 => ?_
  have H24 := H23.ct 3 rfl (Zh 25 1 (.slice (some ⟨b21, 0, none⟩) 1 1) 1 ([(S.getD i Zi).t].flatMap Z4j)) (by rw [show (([A0] : LV) : LV) = [(S.getD i Zi).t].flatMap Z4j from rfl])
  refine kk <| zy <| Z0g (T := 109) (e := 25) (size := 1) (bytes := 8) rfl H24 kr 2 3 rfl rfl rfl rfl (Z07 Z4j Zbv [(S.getD i Zi).t]) om om fun v26 w27 H28 => ?_
  have H31 := H28.ct 2 rfl (Zh 25 1 v26 ((D ++ [(S.getD i Zi).t]).length) ((D ++ [(S.getD i Zi).t]).flatMap Z4j)) ja
  obtain ⟨a29, c30, rfl⟩ := Z1 (H31.at 2 rfl)
  let A3 : Value := .slice a29 ((D ++ [(S.getD i Zi).t]).length) c30
  refine kk <| wv 3 A3 <| Zn <| Z6 <| ztn <| Zl <| zwi 22 ((i : Int) + 1) <| wv 10 (vi ((i : Int) + 1)) <| Zn ?_
  have hDl : D.length = i := by rw [hD, Z5P, List.length_take]; omega
  have H32 := H31.pk [0, 1, 2]
  refine Z5 ?_ _ ⟨(i + 1), a29, c30, (D ++ [(S.getD i Zi).t]), rfl, (show (A3 : Value) = _ by first | rfl | go_num), om, (by rw [hD, Z7S S om]), H32, rfl⟩ om
  exact zs
 refine zxb <| ztn <| zsl <| wv 24 (.slice a D.length c) <| zy <| zdq 25 (Zfs w7 (.slice a D.length c) D (ListAt.row (enc := Z4j) (sz := 1) Z2o (by decide) (H8.at 2 rfl)) om) H8 fun w36 H37 => ?_
 let A1 : Value := .bool (decide (D.length % 2 = 1))
 let A2 : Value := vu (Z9G D)
 refine kk <| wv 23 (.tuple #[A2, A1]) <| wv 26 A2 <| wv 27 A1 <| wv 5 A2 <| wv 6 A1 <| Z0G <| wv 28 A2 <| wv 2 A2 <| znt ?_
 refine Zk <| ze1 A2 ?_
 have hT : D = Z3V S := by rw [hD, List.take_of_length_le om]
 exact ⟨by unfold Zz; rw [← hT], H37.upd 0 rfl [] ne⟩
section
variable {κ ν : Type} [DecidableEq κ] {encK : κ → Value} {encV : ν → Value} {P : Program} {k : TypeId} {w : World} {b : Nat} {l : List (κ × ν)}
end
section
variable {P : Program} {Q : Exit → Act → World → Prop} {n : Nat} {f : Nat → Value} {w0 w : World} {G : List Ck} {dst : Option Tmp} {ty : TypeId} {pos : String} {aft : Array Edge} {gd : Option (Nat × Bool)} {K' : Act → World → Prop}
end
def Z3x (x : NmD) : Prop := (0 ≤ x.cl ∧ x.cl < 3) ∧ 1 ≤ x.sq ∧ x.sq ≤ 4
def Zfb (c : CeR) : Prop := Z3x ⟨c.x.cl, c.x.seq⟩ ∧ c.S.length ≤ 12 ∧ Zfg c.S
noncomputable def Z1o (c : CeR) : Z1q := ⟨c.x.cl, c.x.seq, c.x.h, Zz c.S⟩
def Z5G (e : Z1q) : NmD := ⟨e.cl, e.sq⟩
def Z3C (a b : Z1q) : Bool := decide (a.t < b.t) || (decide (a.t = b.t) && Zcr a.h b.h)
abbrev Zbh := List (NmD × Z1q)
def Z3L (last tm : Int) (lg : NmD → Bool) (e : Z1q) : Bool := decide (e.t ≤ last) || decide (e.t > tm) || lg (Z5G e)
def Z4i (last tm : Int) (lg : NmD → Bool) (M : Zbh) (e : Z1q) : Zbh :=
 if Z3L last tm lg e = true then M else match ZB M (Z5G e) with
  | none => Z2p M (Z5G e) e
  | some was => if Z3C e was = true then Z2p M (Z5G e) e else M
noncomputable def Z7n (last tm : Int) (lg : NmD → Bool) (L : List CeR) : Zbh := L.foldl (fun M c => Z4i last tm lg M (Z1o c)) []
section
variable {last tm : Int} {lg : NmD → Bool} {M : Zbh} {e : Z1q} {L : List CeR} {c : CeR}
theorem ZeV (L : List CeR) (c : CeR) : Z7n last tm lg (L ++ [c]) = Z4i last tm lg (Z7n last tm lg L) (Z1o c) := by simp [Z7n, List.foldl_append]
theorem Z3c (h : Z3L last tm lg e = true) : Z4i last tm lg M e = M := by unfold Z4i; rw [if_pos h]
theorem Z6L (h : Z3L last tm lg e = false) (h2 : ZB M (Z5G e) = none) : Z4i last tm lg M e = Z2p M (Z5G e) e := by unfold Z4i; rw [if_neg (by rw [h]; decide), h2]
theorem Z6Q {was : Z1q} (h : Z3L last tm lg e = false) (h2 : ZB M (Z5G e) = some was) : Z4i last tm lg M e = if Z3C e was = true then Z2p M (Z5G e) e else M := by unfold Z4i; rw [if_neg (by rw [h]; decide), h2]
structure EOk (M : Zbh) : Prop where
 nd : (M.map (·.1)).Nodup
 nm : ∀ x ∈ M, x.1 = Z5G x.2
 sm : ∀ x ∈ M, Z3x x.1
end
section
variable {κ ν : Type} [DecidableEq κ] {l : List (κ × ν)} {a : κ} {v : ν}
theorem Z5y {y : κ × ν} (h : y ∈ Z2p l a v) : y = (a, v) ∨ y ∈ l := by
 unfold Z2p at h
 split at h
 ·obtain ⟨z, hz, e⟩ := List.mem_map.1 h
  split at e
  ·exact .inl e.symm
  ·exact .inr (e ▸ hz)
 ·rcases List.mem_append.1 h with h | h
  ·exact .inr h
  ·exact .inl (List.mem_singleton.1 h)
theorem Zd9 {x : ν} (h : ZB l a = some x) : (a, x) ∈ l := by
 unfold ZB at h
 obtain ⟨y, hy, rfl⟩ := Option.map_eq_some_iff.1 h
 have h1 := List.find?_some hy
 have h2 := List.mem_of_find?_eq_some hy
 have h3 : y.1 = a := by simpa using h1
 rw [← h3]; exact h2
theorem Z4G : (Z2p l a v).map (·.1) = if a ∈ l.map (·.1) then l.map (·.1) else l.map (·.1) ++ [a] := by
 unfold Z2p
 split
 ·rw [List.map_map]
  refine List.map_congr_left fun y _ => ?_
  show (if y.1 = a then (a, v) else y).1 = y.1
  split
  ·rename_i e; exact e.symm
  ·rfl
 ·simp
end
theorem Z5e : ∀ (n : Nat) (l : List Nat), l.Nodup → (∀ x ∈ l, x < n) → l.length ≤ n
 | 0, l, _, h => by
  cases l with
  | nil => simp
  | cons x l => exact absurd (h x (by simp)) (Nat.not_lt_zero _)
 | n + 1, l, hn, h => by
  have ih := Z5e n (l.erase n) (hn.erase n) fun x hx => by
   have h1 := (List.Nodup.mem_erase_iff hn).1 hx
   have h2 := h x h1.2
   have := h1.1
   omega
  by_cases hm : n ∈ l
  ·have := List.length_erase_of_mem hm; omega
  ·rw [List.erase_of_not_mem hm] at ih; omega
section
variable {last tm : Int} {lg : NmD → Bool} {M : Zbh} {e : Z1q} {L : List CeR} {c : CeR}
theorem EOk.nil : EOk [] := ⟨List.nodup_nil, by simp, by simp⟩
theorem EOk.put (h : EOk M) (hs : Z3x (Z5G e)) : EOk (Z2p M (Z5G e) e) := by
 refine ⟨?_, fun x hx => ?_, fun x hx => ?_⟩
 ·rw [Z4G]
  split
  ·exact h.nd
  ·rename_i q
   rw [List.nodup_append]
   exact ⟨h.nd, by simp, fun a ha b hb e => by rw [List.mem_singleton.1 hb] at e; exact q (e ▸ ha)⟩
 ·rcases Z5y hx with rfl | hx
  ·rfl
  ·exact h.nm x hx
 ·rcases Z5y hx with rfl | hx
  ·exact hs
  ·exact h.sm x hx
theorem EOk.step (h : EOk M) (hs : Z3x (Z5G e)) : EOk (Z4i last tm lg M e) := by
 unfold Z4i
 split
 ·exact h
 ·split
  ·exact h.put hs
  ·split
   ·exact h.put hs
   ·exact h
theorem Z8H (h : ∀ c ∈ L, Zfb c) : EOk (Z7n last tm lg L) := by
 have key : ∀ (L : List CeR) (M : Zbh), EOk M → (∀ c ∈ L, Zfb c) → EOk (L.foldl (fun M c => Z4i last tm lg M (Z1o c)) M) := by
  intro L
  induction L with
  | nil => intro M hM _; exact hM
  | cons c L ih => intro M hM hc; exact ih _ (hM.step (hc c (by simp)).1) fun d hd => hc d (by simp [hd])
 exact key L [] EOk.nil h
theorem EOk.len (h : EOk M) : M.length ≤ 12 := by
 have hm := Z5e 12 ((M.map (·.1)).map fun x => (x.cl * 4 + (x.sq - 1)).toNat) ?_ ?_
 ·simpa using hm
 ·rw [List.Nodup, List.pairwise_map]
  refine List.Pairwise.imp_of_mem ?_ h.nd
  intro a b ha hb hne e
  obtain ⟨x, hx, rfl⟩ := List.mem_map.1 ha
  obtain ⟨y, hy, rfl⟩ := List.mem_map.1 hb
  have hx' := h.sm x hx
  have hy' := h.sm y hy
  unfold Z3x at hx' hy'
  apply hne
  have h1 : x.1.cl = y.1.cl := by omega
  have h2 : x.1.sq = y.1.sq := by omega
  cases hx1 : x.1; cases hy1 : y.1
  simp_all
 ·intro z hz
  obtain ⟨a, ha, rfl⟩ := List.mem_map.1 hz
  obtain ⟨x, hx, rfl⟩ := List.mem_map.1 ha
  have := h.sm x hx
  unfold Z3x at this
  omega
theorem EOk.inj (h : EOk M) : ∀ a ∈ M.map (·.2), ∀ b ∈ M.map (·.2), Z5G a = Z5G b → a = b := fun a ha b hb e => by
 obtain ⟨x, hx, rfl⟩ := List.mem_map.1 ha
 obtain ⟨y, hy, rfl⟩ := List.mem_map.1 hb
 have e2 : x.1 = y.1 := by rw [h.nm x hx, h.nm y hy, e]
 obtain ⟨i, hi, hxi⟩ := List.mem_iff_getElem.1 hx
 obtain ⟨j, hj, hyj⟩ := List.mem_iff_getElem.1 hy
 have key : i = j := by
  have hp := List.pairwise_iff_getElem.1 h.nd
  rcases Nat.lt_trichotomy i j with q | q | q
  ·exact absurd (by rw [List.getElem_map, List.getElem_map, hxi, hyj, e2]) (hp i j (by simpa using hi) (by simpa using hj) q)
  ·exact q
  ·exact absurd (by rw [List.getElem_map, List.getElem_map, hxi, hyj, e2]) (hp j i (by simpa using hj) (by simpa using hi) q)
 subst key
 rw [← hxi, ← hyj]
end
section
variable {last tm : Int} {lg : NmD → Bool} {M M' : Zbh} {A C : List CeR} {P : List PrR} {i k : Nat} {w : World}
theorem Z0K (h : k < C.length) : C.take (k + 1) = C.take k ++ [C.getD k ce0] := by
 rw [List.take_add_one, List.getElem?_eq_getElem h, List.getD_eq_getElem?_getD, List.getElem?_eq_getElem h]; rfl
theorem Z1G (hM : M = Z7n last tm lg (A ++ C.take k)) (hk : k < C.length) (hs : Z4i last tm lg M (Z1o (C.getD k ce0)) = M') : M' = Z7n last tm lg (A ++ C.take (k + 1)) := by
 rw [Z0K hk, ← List.append_assoc, ZeV, ← hM, hs]
theorem Z6w (h : i < P.length) : (P.take (i + 1)).flatMap (·.C) = (P.take i).flatMap (·.C) ++ (P.getD i pr0).C := by
 have e : P.take (i + 1) = P.take i ++ [P.getD i pr0] := by
  rw [List.take_add_one, List.getElem?_eq_getElem h, List.getD_eq_getElem?_getD, List.getElem?_eq_getElem h]; rfl
 rw [e, List.flatMap_append]; simp only [List.flatMap_cons, List.flatMap_nil, List.append_nil]
theorem Z1d (h : k < C.length) : C.getD k ce0 ∈ C := by
 rw [List.getD_eq_getElem?_getD, List.getElem?_eq_getElem h]; exact List.getElem_mem h
theorem Z2Y (h : i < P.length) : P.getD i pr0 ∈ P := by
 rw [List.getD_eq_getElem?_getD, List.getElem?_eq_getElem h]; exact List.getElem_mem h
theorem Z6R (hPo : ∀ i, i < P.length → PrOk w (P.getD i pr0)) (hi : i < P.length) (hk : k < (P.getD i pr0).C.length) : CeOk w ((P.getD i pr0).C.getD k ce0) := (hPo i hi).2 _ (Z1d hk)
def PSm (P : List PrR) : Prop := ∀ p ∈ P, ∀ c ∈ p.C, Zfb c
theorem PSm.at (h : PSm P) (hi : i < P.length) (hk : k < (P.getD i pr0).C.length) : Zfb ((P.getD i pr0).C.getD k ce0) := h _ (Z2Y hi) _ (Z1d hk)
theorem PSm.all (h : PSm P) : ∀ c ∈ P.flatMap (·.C), Zfb c := fun c hc => by
 obtain ⟨p, hp, hc⟩ := List.mem_flatMap.1 hc
 exact h p hp c hc
def lgM (LM : List (NmD × Bool)) (n : NmD) : Bool := (ZB LM n).getD false
variable {LM : List (NmD × Bool)} {lg : NmD → Bool} {c : CeR} {v : Z1q}
theorem skip1 (h : decide (Zz c.S ≤ last) = true) : Z3L last tm lg (Z1o c) = true := by
 show (decide (Zz c.S ≤ last) || decide (Zz c.S > tm) || lg ⟨c.x.cl, c.x.seq⟩) = true
 rw [h]; rfl
theorem skip2 (h : decide (Zz c.S > tm) = true) : Z3L last tm lg (Z1o c) = true := by
 show (decide (Zz c.S ≤ last) || decide (Zz c.S > tm) || lg ⟨c.x.cl, c.x.seq⟩) = true
 rw [h]; simp
theorem skip3 (hlg : lg = lgM LM) (h : (ZB LM (⟨c.x.cl, c.x.seq⟩ : NmD)).getD false = true) : Z3L last tm lg (Z1o c) = true := by
 show (decide (Zz c.S ≤ last) || decide (Zz c.S > tm) || lg ⟨c.x.cl, c.x.seq⟩) = true
 rw [show lg ⟨c.x.cl, c.x.seq⟩ = true from (by rw [hlg]; exact h)]; simp
theorem Zcd (hlg : lg = lgM LM) (h1 : decide (Zz c.S ≤ last) = false) (h2 : decide (Zz c.S > tm) = false) (h : (ZB LM (⟨c.x.cl, c.x.seq⟩ : NmD)).getD false = false) : Z3L last tm lg (Z1o c) = false := by
 show (decide (Zz c.S ≤ last) || decide (Zz c.S > tm) || lg ⟨c.x.cl, c.x.seq⟩) = false
 rw [show lg ⟨c.x.cl, c.x.seq⟩ = false from (by rw [hlg]; exact h), h1, h2]; rfl
theorem ZdW (h : (ZB M (⟨c.x.cl, c.x.seq⟩ : NmD)).isSome = true) : ∃ v, ZB M (⟨c.x.cl, c.x.seq⟩ : NmD) = some v := Option.isSome_iff_exists.1 h
theorem ZdC (h : (ZB M (⟨c.x.cl, c.x.seq⟩ : NmD)).isSome = false) : ZB M (Z5G (Z1o c)) = none := by
 show ZB M (⟨c.x.cl, c.x.seq⟩ : NmD) = none
 cases hq : ZB M (⟨c.x.cl, c.x.seq⟩ : NmD) with
 | none => rfl
 | some v => rw [hq] at h; simp at h
theorem Zbj (hs : Z3L last tm lg (Z1o c) = false) (h : (ZB M (⟨c.x.cl, c.x.seq⟩ : NmD)).isSome = true) (ha : Z3C (Z1o c) ((ZB M (⟨c.x.cl, c.x.seq⟩ : NmD)).getD Z1K) = true) : Z4i last tm lg M (Z1o c) = Z2p M (Z5G (Z1o c)) (Z1o c) := by
 obtain ⟨v, hv⟩ := ZdW h
 rw [hv] at ha; change Z3C (Z1o c) v = _ at ha
 rw [Z6Q (was := v) hs hv, if_pos ha]
theorem Zdl (hs : Z3L last tm lg (Z1o c) = false) (h : (ZB M (⟨c.x.cl, c.x.seq⟩ : NmD)).isSome = true) (ha : Z3C (Z1o c) ((ZB M (⟨c.x.cl, c.x.seq⟩ : NmD)).getD Z1K) = false) : Z4i last tm lg M (Z1o c) = M := by
 obtain ⟨v, hv⟩ := ZdW h
 rw [hv] at ha; change Z3C (Z1o c) v = _ at ha
 rw [Z6Q (was := v) hs hv, if_neg (by rw [show Z3C (Z1o c) v = false from ha]; decide)]
end
section
variable {P : Program} {t : TypeId} {X : Type} [DecidableEq X]
variable {enc : X → List Value}
end
section
variable {P : Program} {n : Nat} {f : Nat → Value} {w : World} {dst : Option Tmp} {ty : TypeId} {pos : String} {aft : Array Edge} {gd : Option (Nat × Bool)}
end
instance : DecidableEq Z1q := fun a b =>
 if h : a.cl = b.cl ∧ a.sq = b.sq ∧ a.h = b.h ∧ a.t = b.t then .isTrue (by cases a; cases b; simp_all) else .isFalse (fun e => h (by rw [e]; simp))
theorem Z9v (w : World) : (zeroValue 63).run Tryz.prog w = .ok (Z2y Z1K) w := by kernel_rfl
theorem Zdk (a b : Int) : Instr.sameBits 10000 (.agg ⟨[i6 a, i6 b]⟩) (.agg ⟨[i6 a, i6 b]⟩) = true := by simp [Instr.sameBits]
theorem nmK : KeyTy Tryz.prog 59 nmV := KeyTy.deep (by kernel_rfl) (fun w em a => by cases em <;> kernel_rfl) (fun w x y => by
 simp only [Op.equal, Op.maxDepth, nmV, Z2r]
 simp [go_sem]
 obtain ⟨x1, x2⟩ := x
 obtain ⟨y1, y2⟩ := y
 by_cases h1 : x1 = y1 <;> by_cases h2 : x2 = y2 <;> simp_all) (fun a => Zdk _ _)
theorem Z6y {n : Nat} {f : Nat → Value} {w : World} {dst : Option Tmp} {ty : TypeId} {pos : String} {aft : Array Edge} {gd : Option (Nat × Bool)} {x y : Operand} {T : TypeId} (a b c d : Int) (hx : ev n f x = .agg ⟨[i6 a, i6 b]⟩) (hy : ev n f y = .agg ⟨[i6 c, i6 d]⟩) :
  (execOp (ev n f) ⟨dst, .binOp .eql 59 x y T, ty, pos, aft, gd⟩).run Tryz.prog w = .ok (.value (.bool (decide (a = c ∧ b = d)))) w := by
 simp only [execOp, hx, hy]
 simp [go_sem]
 by_cases h1 : a = c <;> by_cases h2 : b = d <;> simp_all
abbrev ZfZ (p0 : Z1q) : List Value := ([i6 p0.cl, i6 p0.sq] : LV) ++ hc p0.h ++ ([u6 p0.t] : LV)
abbrev ZfO (p0 : Int) (p1 : Int) : List Value := ([i6 p0, i6 p1] : LV)
theorem Z6j (w : World) (b1 b2 : Nat) (T1 T2 : TypeId) (x y : Hash) (h1 : w.heap[b1]? = some (.cells ⟨hc x⟩ T1 (0, 0))) (h2 : w.heap[b2]? = some (.cells ⟨hc y⟩ T2 (0, 0))) :
  Calls Tryz.prog 127 #[(.slice (some ⟨b1, 0, none⟩) 32 32), (.slice (some ⟨b2, 0, none⟩) 32 32)] w fun e w' => e = .returned (i6 (Extern.BytealgCompare.cmp ⟨x.l.toArray⟩ ⟨y.l.toArray⟩)) ∧ Upd [] w w' := by
 have H := Sat.start0 w
 refine Za Tryz.func127 rfl 8 rfl kn ?_
 let A0 : Value := vi (Extern.BytealgCompare.cmp ⟨x.l.toArray⟩ ⟨y.l.toArray⟩)
 refine zsl <| wv 4 (vi 0) <| Z0G <| wv 5 (.slice (some ⟨b1, 0, none⟩) 32 32) <| wv 6 (.slice (some ⟨b2, 0, none⟩) 32 32) <| wv 7 A0 ?_ (hr := Zfj kr (Zah x y (H.roCells 0 rfl h1 (fun h => h)) (H.roCells 0 rfl h2 (fun h => h))))
 refine wv 4 A0 <| znt <| Zk <| ze1 A0 ?_
 exact ⟨rfl, H.upd 0 rfl [] ne⟩
theorem Za1 (w : World) (x y : Hash) :
  Calls Tryz.prog 100 #[(.agg ⟨(hc x)⟩), (.agg ⟨(hc y)⟩)] w fun e w' => e = .returned (.bool (Zcr x y)) ∧ Upd [] w w' := by
 have H := Sat.start0 w
 refine Za Tryz.func100 rfl 9 rfl kn ?_
 refine zsl <| zy <| zdb (hc x) H fun b2 w3 H4 => ?_
 refine kk <| zy <| zdb (hc y) H4 fun b6 w7 H8 => ?_
 refine kk <| wv 4 (.bool false) <| znt <| Z7 <| zqs H8 ?_
 refine qv 5 (.slice (some ⟨b2, 0, none⟩) 32 32) <| qv 6 (.slice (some ⟨b6, 0, none⟩) 32 32) <| Z0N (Z8 rfl) (d := 7) (v := (vi (Extern.BytealgCompare.cmp ⟨x.l.toArray⟩ ⟨y.l.toArray⟩))) rfl (fun _ _ => by kernel_rfl) (fun w' H' => (Z6j w' b2 b6 _ _ x y (H'.at 1 rfl) (H'.at 2 rfl)).mono fun _ _ h => ⟨h.1, H'.keepU h.2⟩) ?_
 let A0 : Value := .bool (decide ((Extern.BytealgCompare.cmp ⟨x.l.toArray⟩ ⟨y.l.toArray⟩) < 0))
 refine qv 8 A0 <| qv 4 A0 <| Z09 fun w9 H10 => ?_
 refine ztn <| Zk <| ze1 A0 ?_
 exact ⟨rfl, H10.upd 0 rfl [] ne⟩
theorem Z9y (w : World) (x y : Z1q) :
  Calls Tryz.prog 58 #[(.agg ⟨(([i6 x.cl, i6 x.sq] : LV) ++ hc x.h ++ ([u6 x.t] : LV))⟩), (.agg ⟨(([i6 y.cl, i6 y.sq] : LV) ++ hc y.h ++ ([u6 y.t] : LV))⟩)] w fun e w' => e = .returned (.bool (Z3C x y)) ∧ Upd [] w w' := by
 have H := Sat.start0 w
 refine Za Tryz.func58 rfl 24 rfl kn ?_
 refine zsl <| zy <| zdb (ZfZ x) H fun b2 w3 H4 => ?_
 refine kk <| zy <| zdb (ZfZ y) H4 fun b6 w7 H8 => ?_
 refine kk <| wv 4 (.bool false) <| Z0G <| wv 5 (pt b2 34) <| zw1 6 (vu x.t) (H8.cell 1 rfl kr) <| wv 7 (pt b6 34) <| zw1 8 (vu y.t) (H8.cell 2 rfl kr) <| wv 9 (.bool (decide (x.t < y.t))) <| wv 10 (.bool (decide (x.t < y.t))) ?_
 refine zil 10 (fun b9 g10 => ?_) fun b9 g12 => ?_
 ·iterate 6 refine wn 5 10 false ?_
  iterate 5 refine wu 11 16 true ?_
  refine wn 5 10 false ?_
  refine wv 23 (.bool true) <| wv 4 (.bool true) <| znt <| Zk <| ze1 (.bool true) ?_
  exact ⟨by unfold Z3C; simp [b9], H8.upd 0 rfl [] ne⟩
 refine wy 5 10 false 11 (pt b2 34) <| wy 5 10 false 12 (vu x.t) ?_ (hr := zl1 (H8.cell 1 rfl kr))
 refine wy 5 10 false 13 (pt b6 34) <| wy 5 10 false 14 (vu y.t) ?_ (hr := zl1 (H8.cell 2 rfl kr))
 refine wy 5 10 false 15 (.bool (decide (x.t = y.t))) <| wy 5 10 false 16 (.bool (decide (x.t = y.t))) ?_
 refine zil 16 (fun b14 g15 => ?_) fun b14 g21 => ?_
 ·refine wy 11 16 true 17 (pt b2 2) <| wy 11 16 true 18 (.agg ⟨(hc x.h)⟩) ?_ (hr := zlN (vs := (hc x.h)) (H8.at 1 rfl))
  refine wy 11 16 true 19 (pt b6 2) <| wy 11 16 true 20 (.agg ⟨(hc y.h)⟩) ?_ (hr := zlN (vs := (hc y.h)) (H8.at 2 rfl))
  refine Z48 (Z0a 11 16 true rfl kr rfl kr) (fun Kq kq => ?_)
  refine zdq 21 (Za1 w7 x.h y.h) H8 ?_
  intro w18 H19
  refine kq _ _ <| wy 5 10 false 22 (.bool (Zcr x.h y.h)) <| wv 23 (.bool (Zcr x.h y.h)) <| wv 4 (.bool (Zcr x.h y.h)) <| znt <| Zk <| ze1 (.bool (Zcr x.h y.h)) ?_
  exact ⟨by unfold Z3C; simp [b9, b14], H19.upd 0 rfl [] ne⟩
 iterate 5 refine wn 11 16 true ?_
 refine wy 5 10 false 22 (.bool false) <| wv 23 (.bool false) <| wv 4 (.bool false) <| znt <| Zk <| ze1 (.bool false) ?_
 exact ⟨by unfold Z3C; simp [b9, b14], H8.upd 0 rfl [] ne⟩
theorem Z95 (w : World) (a b c d : Int) :
  Calls Tryz.prog 27 #[(.agg ⟨([i6 a, i6 b] : LV)⟩), (.agg ⟨([i6 c, i6 d] : LV)⟩)] w fun e w' => e = .returned (.bool (decide (a < c) || (decide (a = c) && decide (b < d)))) ∧ Upd [] w w' := by
 have H := Sat.start0 w
 refine Za Tryz.func27 rfl 24 rfl kn ?_
 refine zsl <| zy <| zdb (ZfO a b) H fun b2 w3 H4 => ?_
 refine kk <| zy <| zdb (ZfO c d) H4 fun b6 w7 H8 => ?_
 refine kk <| wv 4 (.bool false) <| Z0G <| wv 5 (pt b2 0) <| zw1 6 (vi a) (H8.cell 1 rfl rfl) <| wv 7 (pt b6 0) <| zw1 8 (vi c) (H8.cell 2 rfl rfl) <| wv 9 (.bool (decide (a < c))) <| wv 10 (.bool (decide (a < c))) ?_
 refine zil 10 (fun b9 g10 => ?_) fun b9 g10 => ?_
 ·iterate 6 refine wn 5 10 false ?_
  iterate 5 refine wu 11 16 true ?_
  refine wn 5 10 false ?_
  refine wv 23 (.bool true) <| wv 4 (.bool true) <| znt <| Zk <| ze1 (.bool true) ?_
  exact ⟨by simp [b9], H8.upd 0 rfl [] ne⟩
 refine wy 5 10 false 11 (pt b2 0) <| wy 5 10 false 12 (vi a) ?_ (hr := zl1 (H8.cell 1 rfl rfl))
 refine wy 5 10 false 13 (pt b6 0) <| wy 5 10 false 14 (vi c) ?_ (hr := zl1 (H8.cell 2 rfl rfl))
 refine wy 5 10 false 15 (.bool (decide (a = c))) <| wy 5 10 false 16 (.bool (decide (a = c))) ?_
 refine zil 16 (fun b14 g15 => ?_) fun b14 g17 => ?_
 ·refine wy 11 16 true 17 (pt b2 1) <| wy 11 16 true 18 (vi b) ?_ (hr := zl1 (H8.cell 1 rfl rfl))
  refine wy 11 16 true 19 (pt b6 1) <| wy 11 16 true 20 (vi d) ?_ (hr := zl1 (H8.cell 2 rfl rfl))
  refine wy 11 16 true 21 (.bool (decide (b < d))) <| wy 5 10 false 22 (.bool (decide (b < d))) <| wv 23 (.bool (decide (b < d))) <| wv 4 (.bool (decide (b < d))) <| znt <| Zk <| ze1 (.bool (decide (b < d))) ?_
  exact ⟨by simp [b9, b14], H8.upd 0 rfl [] ne⟩
 iterate 5 refine wn 11 16 true ?_
 refine wy 5 10 false 22 (.bool false) <| wv 23 (.bool false) <| wv 4 (.bool false) <| znt <| Zk <| ze1 (.bool false) ?_
 exact ⟨by simp [b9, b14], H8.upd 0 rfl [] ne⟩
def Z0s (L : List Ck) : Ck where
 fp b := ∃ A ∈ L, A.fp b
 ok w := ∀ A ∈ L, A.ok w
 stay {w w'} h hb A hA := A.stay (h A hA) fun b hf => hb b ⟨A, hA, hf⟩
 lt {w} h b hb := by obtain ⟨A, hA, hf⟩ := hb; exact A.lt (h A hA) b hf
section
variable {w0 w : World} {A : Ck} {L R G : List Ck}
theorem Sat.bag0 (H : Sat w0 G w) : Sat w0 (G ++ [Z0s []]) w :=
 H.add (Ext.refl w) (fun _ _ => rfl) (fun A hA => by simp at hA) (fun b hb => by obtain ⟨A, hA, _⟩ := hb; simp at hA)
theorem Sat.bag (H : Sat w0 (Z0s L :: A :: R) w) : Sat w0 (Z0s (A :: L) :: R) w := by
 have h1 := List.pairwise_cons.1 H.dis
 have h2 := List.pairwise_cons.1 h1.2
 refine ⟨H.ext, fun C hC => ?_, List.pairwise_cons.2 ⟨fun C hC b hb hc => ?_, h2.2⟩⟩
 ·rcases List.mem_cons.1 hC with rfl | hC
  ·intro B hB
   rcases List.mem_cons.1 hB with rfl | hB
   ·exact H.all _ (by simp)
   ·exact (show (Z0s L).ok w from H.all _ (by simp)) B hB
  ·exact H.all _ (by simp [hC])
 ·obtain ⟨B, hB, hf⟩ := hb
  rcases List.mem_cons.1 hB with rfl | hB
  ·exact h2.1 C hC b hf hc
  ·exact h1.1 C (by simp [hC]) b ⟨B, hB, hf⟩ hc
end
def stC (c : CeR) : Ck := Zh 149 38 (.slice c.sa c.S.length c.sc) c.S.length (c.S.flatMap Z1T)
def ceC (p : PrR) : Ck := Zh 76 38 (.slice p.ca p.C.length p.cc) p.C.length (p.C.flatMap Z0Z)
def PIn (L : List Ck) (p : PrR) : Prop := ceC p ∈ L ∧ ∀ c ∈ p.C, stC c ∈ L
section
variable {L : List Ck} {A : Ck} {p : PrR} {x : CeR} {C : List CeR} {D : List PrR} {w : World} {a b : Int} {S : List Z9}
theorem PIn.ok (h : PIn L p) (hb : (Z0s L).ok w) : PrOk w p :=
 ⟨ListAt.row Z0W (by decide) (hb _ h.1), fun c hc => ListAt.row Z3U (by decide) (hb _ (h.2 c hc))⟩
theorem PIn.more (h : PIn L p) : PIn (A :: L) p := ⟨List.mem_cons_of_mem _ h.1, fun c hc => List.mem_cons_of_mem _ (h.2 c hc)⟩
theorem Zgk (h : ∀ c ∈ C, stC c ∈ L) : ∀ c ∈ C ++ [x], stC c ∈ stC x :: L := fun c hc => by
 rcases List.mem_append.1 hc with hc | hc
 ·exact List.mem_cons_of_mem _ (h c hc)
 ·rw [List.mem_singleton.1 hc]; exact List.mem_cons_self
theorem Z6c {c : CeR} (h : (Z0s L).ok w) (hm : stC c ∈ L) : ListAt Z1T 38 w (.slice c.sa c.S.length c.sc) c.S := ListAt.row Z3U (by decide) (h _ hm)
theorem bag_ce (h : (Z0s L).ok w) (hm : ceC p ∈ L) : ListAt Z0Z 38 w (.slice p.ca p.C.length p.cc) p.C := ListAt.row Z0W (by decide) (h _ hm)
end
end Go.Proofs.YtenihpghfdcpkaaGreat
