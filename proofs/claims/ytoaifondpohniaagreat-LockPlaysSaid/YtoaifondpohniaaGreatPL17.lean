/- WHAT IS PROVED: contracts and plain laws of TimeE, StrMap, EntD, EntM, Eqs, Strs, EntE, Flats, FrameU. Conditions: stated with each. -/
import Derived.ChangeKeysEq
import Derived.Laws.IdiomStrings
import Derived.Test.YtoaifondpohniaaGreatPL03
import Derived.Test.YtoaifondpohniaaGreatPL04
import Derived.Test.YtoaifondpohniaaGreatPL05
import Derived.Test.YtoaifondpohniaaGreatPL06
import Derived.Test.YtoaifondpohniaaGreatPL13
import Derived.Test.YtoaifondpohniaaGreatPL16
set_option maxHeartbeats 4000000
set_option maxRecDepth 100000
namespace Go.Proofs.YtoaifondpohniaaGreat
open Go.RowKit
abbrev Z5o (p0 : Zg) (p1 : Option Addr) (p2 : Nat) (p3 : Nat) : List Value := ([(.int .i64 p0.cl), (.int .i64 p0.seq)] : List Value) ++ hc p0.h ++ ([(.int .i64 p0.len), (.int .i64 p0.sb), (.int .i64 p0.sm), (.slice p1 p2 p3)] : List Value)
abbrev Z92 (p0 : Option Addr) (p1 : List Int) (p2 : Nat) : Ck := Zk 27 1 (.slice p0 p1.length p2) p1.length (p1.flatMap Z3y)
abbrev Z73 (p0 : Za) : List Value := ([(.int .i64 p0.r), (.int .i64 p0.cl), (.int .i64 p0.seq)] : List Value) ++ hc p0.h ++ ([(.int .u64 p0.t), (.int .i64 p0.sb), (.int .i64 p0.sm)] : List Value)
abbrev ZbA : List Value := ([(.int .i64 (0)), (.int .i64 (0)), (.int .i64 (0))] : List Value) ++ hc Z04 ++ ([(.int .u64 (0)), (.int .i64 (0)), (.int .i64 (0))] : List Value)
theorem Z3c (w : World) (x : Zg) (sa : Option Addr) (sc : Nat) (S : List Za) (hS : ListAt Z0q 38 w (.slice sa S.length sc) S) (hlS : S.length ≤ 12) :
  Calls Tryz.prog 31 #[(.agg ⟨(([(.int .i64 (x.cl)), (.int .i64 (x.seq))] : List Value) ++ hc x.h ++ ([(.int .i64 (x.len)), (.int .i64 (x.sb)), (.int .i64 (x.sm)), (.slice sa S.length sc)] : List Value))⟩)] w fun e w' => e = .returned (.int .u64 (ZA S)) ∧ Upd [] w w' := by
 have H := Sat.start0 w
 refine Zh Tryz.func31 rfl 27 rfl (Nat.le_of_ble_eq_true rfl) ?_
 apply zsl
 refine zwd fun Kq kq => ?_
 refine zdb (Z5o x sa S.length sc) H ?_
 intro b2 w3 H4
 refine kq _ _ ?_
 clear kq Kq
 refine wv 2 (.int .u64 (0)) ?_
 apply Z2Q
 refine wv 3 (.slice none 0 0) ?_
 apply znt
 apply Zd
 apply zsl
 refine wv 8 (pt b2 37) ?_
 refine zw1 9 (.slice sa S.length sc) (H4.cell 1 rfl (by kernel_rfl)) ?_
 refine wv 10 (.int .i64 ((S.length : Int))) ?_
 refine wv 11 (.int .i64 (0)) ?_
 apply znt
 apply ZM
 have H5 := H4.addNil 27 1
 refine Z0b ([3, 5] ++ List.range' 11 10) (fun F_ W_ m_ => ∃ (i : Nat) (a : Option Addr) (c : Nat) (D : List Int), F_ 11 = (.int .i64 ((i : Int))) ∧ F_ 3 = (.slice a D.length c) ∧ (i ≤ S.length) ∧ (D = Z3b (S.take i)) ∧ Sat w [Z7 w (fun _ => False), Z0 b2 53 (Z5o x sa S.length sc), (Z92 a D c)] W_ ∧ m_ = S.length - i) _ ⟨0, none, 0, [], (show ((.int .i64 (0)) : Value) = _ by first | rfl | go_num), (by first | rfl | go_num), (Nat.zero_le _), rfl, H5, rfl⟩ ?_
 rintro g6 w7 _ ⟨i, a, c, D, v9, v10, hi, hD, H8, rfl⟩
 refine Zl 11 _ v9 ?_
 refine Zl 3 _ v10 ?_
 have hDl : D.length = i := by rw [hD, Z4G, List.length_take]; omega
 apply zsl
 refine wv 12 (.bool (decide ((i : Int) < (S.length : Int)))) ?_
 apply znt
 apply Zd
 refine (Zr (decide ((i : Int) < (S.length : Int)))).elim (fun b12 => ?_) (fun b12 => ?_)
 ·have g13 := of_decide_eq_true b12
  refine Z1V _ b12 ?_
  apply ZW
  apply ztn
  apply Zd
  apply ZM
  apply zsl
  obtain ⟨g15, o16, c17, e18, R19⟩ := SliceOf.atD hS Ze (show i < S.length by omega)
  refine wv 13 (.pointer (some ⟨g15, o16 + ((i : Int)).toNat * 38, none⟩)) ?_ (hr := ZV (E := 101) (by kernel_rfl) (by kernel_rfl) (Nat.le_of_ble_eq_true rfl) rfl e18 rfl (by omega) (by omega))
  refine wv 14 (.agg ⟨(Z73 (S.getD i Ze))⟩) ?_ (hr := Z0k (vs := (Z73 (S.getD i Ze))) rfl (by kernel_rfl) (by kernel_rfl) (Nat.le_of_ble_eq_true (by kernel_rfl)) (H8.runR 0 rfl (Z16 R19 0 (by kernel_rfl) (show o16 + ((i : Int)).toNat * 38 = o16 + i * 38 + 0 by omega)) (fun h => h)))
  refine zwd fun Kq kq => ?_
  refine zda (ZbA) H8 ?_
  intro b21 w22 H23
  refine kq _ _ ?_
  clear kq Kq
  refine zwd fun Kq kq => ?_
  refine Z1F (Z73 (S.getD i Ze)) H23 3 ?_
  intro w25 H26
  refine kq _ _ ?_
  clear kq Kq
  apply znt
  apply Zq
  refine wv 15 (.slice a D.length c) ?_
  refine wv 16 (pt b21 35) ?_
  refine zw1 17 (.int .u64 ((S.getD i Ze).t)) (H26.cell 3 rfl (by kernel_rfl)) ?_
  refine zwd fun Kq kq => ?_
  refine Z45 27 1 8 (.int .u64 (0)) [(0, (.int .u64 ((S.getD i Ze).t)))] ([(.int .u64 ((S.getD i Ze).t))] : List Value) H26 ?_
  intro b29 w30 H31
  have H32 := H31.ct 4 rfl (Zk 27 1 (.slice (some ⟨b29, 0, none⟩) 1 1) 1 ([(S.getD i Ze).t].flatMap Z3y)) (by rw [show (([(.int .u64 ((S.getD i Ze).t))] : List Value) : List Value) = [(S.getD i Ze).t].flatMap Z3y from rfl])
  refine kq _ _ ?_
  clear kq Kq
  refine zwd fun Kq kq => ?_
  refine Z11 (T := 48) (e := 27) (size := 1) (bytes := 8) rfl H32 (by kernel_rfl) 2 4 rfl rfl rfl rfl (Z0Q Z3y Z8Q [(S.getD i Ze).t]) (by omega) (by omega) ?_
  intro v34 w35 H36
  have H39 := H36.ct 2 rfl (Zk 27 1 v34 ((D ++ [(S.getD i Ze).t]).length) ((D ++ [(S.getD i Ze).t]).flatMap Z3y)) ja
  obtain ⟨a37, c38, rfl⟩ := Z6 (H39.at 2 rfl)
  refine kq _ _ ?_
  clear kq Kq
  refine wv 3 (.slice a37 ((D ++ [(S.getD i Ze).t]).length) c38) ?_
  apply Zn
  apply Zw
  apply ztn
  apply Zq
  refine zwi 20 ((i : Int) + 1) ?_
  refine wv 11 (.int .i64 ((i : Int) + 1)) ?_
  apply Zn
  have hDl : D.length = i := by rw [hD, Z4G, List.length_take]; omega
  have H40 := H39.pk [0, 1, 2]
  refine ZF ?_ _ ⟨(i + 1), a37, c38, (D ++ [(S.getD i Ze).t]), rfl, (show ((.slice a37 ((D ++ [(S.getD i Ze).t]).length) c38) : Value) = _ by first | rfl | go_num), (by omega), (by rw [hD, Z6J S (by omega)]), H40, rfl⟩ (by omega)
  exact zs
 have g41 := of_decide_eq_false b12
 refine Z1w _ b12 ?_
 apply zxb
 apply ztn
 apply zsl
 refine wv 22 (.slice a D.length c) ?_
 refine zwd fun Kq kq => ?_
 refine zdq 23 (ZbH w7 (.slice a D.length c) D (ListAt.row (enc := Z3y) (sz := 1) Z1v (by decide) (H8.at 2 rfl)) (by omega)) H8 ?_
 intro w44 H45
 refine kq _ _ ?_
 clear kq Kq
 refine wv 21 (.tuple #[(.int .u64 (Z4R D)), (.bool (decide (D.length % 2 = 1)))]) ?_
 refine wv 24 (.int .u64 (Z4R D)) ?_
 refine wv 25 (.bool (decide (D.length % 2 = 1))) ?_
 refine wv 6 (.int .u64 (Z4R D)) ?_
 refine wv 7 (.bool (decide (D.length % 2 = 1))) ?_
 apply Z2Q
 refine wv 26 (.int .u64 (Z4R D)) ?_
 refine wv 2 (.int .u64 (Z4R D)) ?_
 apply znt
 apply ZI
 refine ze1 (.int .u64 (Z4R D)) ?_
 have hT : D = Z3b S := by rw [hD, List.take_of_length_le (by omega)]
 exact ⟨by unfold ZA; rw [← hT], H45.upd 0 rfl [] (fun _ h => h.elim)⟩
theorem Z39 (w : World) (x : Zg) (sa : Option Addr) (sc : Nat) (S : List Za) (hS : ListAt Z0q 38 w (.slice sa S.length sc) S) (hlS : S.length ≤ 12) :
  Calls Tryz.prog 42 #[(.agg ⟨(([(.int .i64 (x.cl)), (.int .i64 (x.seq))] : List Value) ++ hc x.h ++ ([(.int .i64 (x.len)), (.int .i64 (x.sb)), (.int .i64 (x.sm)), (.slice sa S.length sc)] : List Value))⟩)] w fun e w' => e = .returned (.int .u64 (ZA S)) ∧ Upd [] w w' := by
 have H := Sat.start0 w
 refine Zh Tryz.func42 rfl 29 rfl (Nat.le_of_ble_eq_true rfl) ?_
 apply zsl
 refine zwd fun Kq kq => ?_
 refine zdb (Z5o x sa S.length sc) H ?_
 intro b2 w3 H4
 refine kq _ _ ?_
 clear kq Kq
 refine wv 2 (.int .u64 (0)) ?_
 apply Z2Q
 refine wv 3 (.slice none 0 0) ?_
 apply znt
 apply Zd
 apply zsl
 refine wv 7 (pt b2 37) ?_
 refine zw1 8 (.slice sa S.length sc) (H4.cell 1 rfl (by kernel_rfl)) ?_
 refine wv 9 (.int .i64 ((S.length : Int))) ?_
 refine wv 10 (.int .i64 (0)) ?_
 apply znt
 apply ZM
 have H5 := H4.addNil 27 1
 refine Z0b ([3, 4] ++ List.range' 10 13) (fun F_ W_ m_ => ∃ (i : Nat) (a : Option Addr) (c : Nat) (D : List Int), F_ 10 = (.int .i64 ((i : Int))) ∧ F_ 3 = (.slice a D.length c) ∧ (i ≤ S.length) ∧ (D = Z3b (S.take i)) ∧ Sat w [Z7 w (fun _ => False), Z0 b2 53 (Z5o x sa S.length sc), (Z92 a D c)] W_ ∧ m_ = S.length - i) _ ⟨0, none, 0, [], (show ((.int .i64 (0)) : Value) = _ by first | rfl | go_num), (by first | rfl | go_num), (Nat.zero_le _), rfl, H5, rfl⟩ ?_
 rintro g6 w7 _ ⟨i, a, c, D, v9, v10, hi, hD, H8, rfl⟩
 refine Zl 10 _ v9 ?_
 refine Zl 3 _ v10 ?_
 have hDl : D.length = i := by rw [hD, Z4G, List.length_take]; omega
 apply zsl
 refine wv 11 (.bool (decide ((i : Int) < (S.length : Int)))) ?_
 apply znt
 apply Zd
 refine (Zr (decide ((i : Int) < (S.length : Int)))).elim (fun b12 => ?_) (fun b12 => ?_)
 ·have g13 := of_decide_eq_true b12
  refine Z1V _ b12 ?_
  apply ZW
  apply ztn
  apply Zd
  apply ZM
  apply zsl
  refine wv 12 (.int .i64 ((i : Int))) ?_
  refine wv 4 (.int .i64 ((i : Int))) ?_
  apply znt
  apply Zq
  refine wv 13 (.slice a D.length c) ?_
  refine wv 14 (pt b2 37) ?_
  refine zw1 15 (.slice sa S.length sc) (H8.cell 1 rfl (by kernel_rfl)) ?_
  refine wv 16 (.int .i64 ((i : Int))) ?_
  obtain ⟨g15, o16, c17, e18, R19⟩ := SliceOf.atD hS Ze (show i < S.length by omega)
  refine wv 17 (.pointer (some ⟨g15, o16 + ((i : Int)).toNat * 38, none⟩)) ?_ (hr := ZV (E := 101) (by kernel_rfl) (by kernel_rfl) (Nat.le_of_ble_eq_true rfl) rfl e18 rfl (by omega) (by omega))
  refine wv 18 (.pointer (some ⟨g15, o16 + ((i : Int)).toNat * 38 + 35, none⟩)) ?_
  refine zw1 19 (.int .u64 ((S.getD i Ze).t)) (H8.cellR 0 rfl (Z1H R19 35 (by kernel_rfl) (show o16 + ((i : Int)).toNat * 38 + 35 = o16 + i * 38 + 35 by omega)) (fun h => h)) ?_
  refine zwd fun Kq kq => ?_
  refine Z45 27 1 8 (.int .u64 (0)) [(0, (.int .u64 ((S.getD i Ze).t)))] ([(.int .u64 ((S.getD i Ze).t))] : List Value) H8 ?_
  intro b21 w22 H23
  have H24 := H23.ct 3 rfl (Zk 27 1 (.slice (some ⟨b21, 0, none⟩) 1 1) 1 ([(S.getD i Ze).t].flatMap Z3y)) (by rw [show (([(.int .u64 ((S.getD i Ze).t))] : List Value) : List Value) = [(S.getD i Ze).t].flatMap Z3y from rfl])
  refine kq _ _ ?_
  clear kq Kq
  refine zwd fun Kq kq => ?_
  refine Z11 (T := 48) (e := 27) (size := 1) (bytes := 8) rfl H24 (by kernel_rfl) 2 3 rfl rfl rfl rfl (Z0Q Z3y Z8Q [(S.getD i Ze).t]) (by omega) (by omega) ?_
  intro v26 w27 H28
  have H31 := H28.ct 2 rfl (Zk 27 1 v26 ((D ++ [(S.getD i Ze).t]).length) ((D ++ [(S.getD i Ze).t]).flatMap Z3y)) ja
  obtain ⟨a29, c30, rfl⟩ := Z6 (H31.at 2 rfl)
  refine kq _ _ ?_
  clear kq Kq
  refine wv 3 (.slice a29 ((D ++ [(S.getD i Ze).t]).length) c30) ?_
  apply Zn
  apply Zw
  apply ztn
  apply Zq
  refine zwi 22 ((i : Int) + 1) ?_
  refine wv 10 (.int .i64 ((i : Int) + 1)) ?_
  apply Zn
  have hDl : D.length = i := by rw [hD, Z4G, List.length_take]; omega
  have H32 := H31.pk [0, 1, 2]
  refine ZF ?_ _ ⟨(i + 1), a29, c30, (D ++ [(S.getD i Ze).t]), rfl, (show ((.slice a29 ((D ++ [(S.getD i Ze).t]).length) c30) : Value) = _ by first | rfl | go_num), (by omega), (by rw [hD, Z6J S (by omega)]), H32, rfl⟩ (by omega)
  exact zs
 have g33 := of_decide_eq_false b12
 refine Z1w _ b12 ?_
 apply zxb
 apply ztn
 apply zsl
 refine wv 24 (.slice a D.length c) ?_
 refine zwd fun Kq kq => ?_
 refine zdq 25 (ZbI w7 (.slice a D.length c) D (ListAt.row (enc := Z3y) (sz := 1) Z1v (by decide) (H8.at 2 rfl)) (by omega)) H8 ?_
 intro w36 H37
 refine kq _ _ ?_
 clear kq Kq
 refine wv 23 (.tuple #[(.int .u64 (Z4R D)), (.bool (decide (D.length % 2 = 1)))]) ?_
 refine wv 26 (.int .u64 (Z4R D)) ?_
 refine wv 27 (.bool (decide (D.length % 2 = 1))) ?_
 refine wv 5 (.int .u64 (Z4R D)) ?_
 refine wv 6 (.bool (decide (D.length % 2 = 1))) ?_
 apply Z2Q
 refine wv 28 (.int .u64 (Z4R D)) ?_
 refine wv 2 (.int .u64 (Z4R D)) ?_
 apply znt
 apply ZI
 refine ze1 (.int .u64 (Z4R D)) ?_
 have hT : D = Z3b S := by rw [hD, List.take_of_length_le (by omega)]
 exact ⟨by unfold ZA; rw [← hT], H37.upd 0 rfl [] (fun _ h => h.elim)⟩
theorem Z3H {α β : Type} (f : α → β) : ∀ (l : List α) (i : Nat), (l.eraseIdx i).map f = (l.map f).eraseIdx i
 | [], _ => rfl
 | _ :: _, 0 => rfl
 | x :: l, i + 1 => by simp [Z3H f l i]
def Z5l {κ ν : Type} [DecidableEq κ] (l : List (κ × ν)) (a : κ) : List (κ × ν) := match (l.map (·.1)).idxOf? a with | none => l | some i => l.eraseIdx i
section
variable {κ ν : Type} [DecidableEq κ] {encK : κ → Value} {encV : ν → Value} {P : Program} {k : TypeId} {w : World} {b : Nat} {l : List (κ × ν)}
theorem MapAt.delete (K : KeyTy P k encK) {t e ty : TypeId} (ht : P.underlying t = some (.map k e)) (h : MapAt w b encK encV l) (a : κ) :
  ∃ w', (Builtin.delete_ #[t, k] ty #[.map (some b), encK a]).run P w = .ok (.tuple #[]) w' ∧ MapAt w' b encK encV (Z5l l a) ∧ Upd [b] w w' := by
 obtain ⟨es, clock, hb, he, hn, hp, hc⟩ := h
 have hf := K.find w a es.toList _ (MapAt.keys he)
 have upd : ∀ o, Upd [b] w (ChangeMaps.setBlock w b o) := fun o => ⟨rfl, rfl, rfl, by simp [ChangeMaps.setBlock], fun j _ hj => ChangeMaps.heap_setBlock_other hb _ (by simpa using hj)⟩
 have hlen : es.toList.length = l.length := by have := congrArg List.length he; simpa using this
 unfold Z5l
 cases hi : (l.map (·.1)).idxOf? a with
 | none =>
  rw [hi] at hf
  refine ⟨ChangeMaps.setBlock w b (.map es clock), ?_, ⟨_, _, ChangeMaps.heap_setBlock_same hb _, he, hn, hp, hc⟩, upd _⟩
  simp [Builtin.delete_, run_underlying ht, MapKept.run_getObj_map hb, Result.andThen, K.check, hf, MapKept.run_setObj_map _ hb, ChangeMaps.setBlock]
 | some i =>
  rw [hi] at hf
  obtain ⟨h1, h2, _⟩ := List.idxOf?_eq_some_iff.1 hi
  have hlt : i < l.length := by simpa using h1
  have hli : i < es.toList.length := by omega
  simp only [Option.bind_some, List.getElem?_eq_getElem hli, Option.map_some] at hf
  have hes : (es.eraseIdxIfInBounds i).toList = es.toList.eraseIdx i := by
   rw [Array.eraseIdxIfInBounds_eq, dif_pos (by simpa using hli), Array.toList_eraseIdx]
  refine ⟨ChangeMaps.setBlock w b (.map (es.eraseIdxIfInBounds i) clock), ?_, ⟨_, _, ChangeMaps.heap_setBlock_same hb _, ?_, ?_, ?_, ?_⟩, upd _⟩
  ·simp [Builtin.delete_, run_underlying ht, MapKept.run_getObj_map hb, Result.andThen, K.check, hf, MapKept.run_setObj_map _ hb, ChangeMaps.setBlock]
  ·rw [hes, Z3H, Z3H, he]
  ·rw [Z3H]; exact hn.sublist (List.eraseIdx_sublist _ _)
  ·rw [hes, Z3H]; exact hp.sublist (List.eraseIdx_sublist _ _)
  ·intro e0 he0
   rw [hes] at he0
   exact hc e0 (List.mem_of_mem_eraseIdx he0)
end
section
variable {P : Program} {Q : Exit → Act → World → Prop} {n : Nat} {f : Nat → Value} {w0 w : World} {G : List Ck} {dst : Option Tmp} {ty : TypeId} {pos : String} {aft : Array Edge} {gd : Option (Nat × Bool)} {K' : Act → World → Prop}
theorem Zaa {κ ν : Type} [DecidableEq κ] {encK : κ → Value} {encV : ν → Value} {T kt et : TypeId} {b : Nat} {l : List (κ × ν)} {x y : Operand} (hd : dst = none) (H : Sat w0 G w) (i : Nat) (hi : G[i]? = some (ZQ b encK encV l)) (K : KeyTy P kt encK) (hT : P.underlying T = some (.map kt et)) (hx : ev n f x = .map (some b)) (a : κ) (hy : ev n f y = encK a)
  (k : ∀ w', Sat w0 (G.set i (ZQ b encK encV (Z5l l a))) w' → K' (fr n f) w') : WO P ⟨dst, .call { callee := .builtin .delete, args := #[x, y], argTypes := #[T, kt] }, ty, pos, aft, gd⟩ K' Q n f w := by
 obtain ⟨w', h1, h2, h3⟩ := (H.at i hi).delete (ty := ty) K hT a
 have hr : (execOp (ev n f) ⟨dst, .call { callee := .builtin .delete, args := #[x, y], argTypes := #[T, kt] }, ty, pos, aft, gd⟩).run P w = .ok (.value (.tuple #[])) w' := by
  simp [execOp, resolve, invoke, builtin, hx, hy, h1, Result.andThen]
 refine ⟨?_⟩
 unfold Oper.wp
 rw [Z2r, hr]
 simp only [Oper.upon, hd, Zaj]
 exact k w' (H.setU h3 i hi (by rintro b' hb; exact List.mem_singleton.1 hb) h2 (fun b hb => .inl hb))
end
structure CeR where
 x : Zg
 sa : Option Addr
 sc : Nat
 S : List Za
def Z03 (c : CeR) : List Value := Z43 c.x ++ [.slice c.sa c.S.length c.sc]
theorem Z0l (c : CeR) : (Z03 c).length = 38 := by simp [Z03, Z43, hc_len]
theorem Z2E (c : CeR) : (Z03 c).all (·.oneCell') = true := by
 simp only [Z03, Z43, List.all_append, Z8k]
 simp [Value.oneCell', Z4f]
def ce0 : CeR := ⟨⟨0, 0, Z04, 0, 0, 0⟩, none, 0, []⟩
structure PrR where
 r : Int
 e : Int
 f : Int
 ca : Option Addr
 cc : Nat
 sb : Int
 sm : Int
 C : List CeR
def Z9u (p : PrR) : List Value := [.int .i64 p.r, .int .i64 p.e, .int .u64 p.f, .slice p.ca p.C.length p.cc, .int .i64 p.sb, .int .i64 p.sm]
def pr0 : PrR := ⟨0, 0, 0, none, 0, 0, 0, []⟩
def Zcp (w : World) (c : CeR) : Prop := ListAt Z0q 38 w (.slice c.sa c.S.length c.sc) c.S
def PrOk (w : World) (p : PrR) : Prop := ListAt Z03 38 w (.slice p.ca p.C.length p.cc) p.C ∧ ∀ c ∈ p.C, Zcp w c
def Z7g (x : NmD) : Prop := (0 ≤ x.cl ∧ x.cl < 3) ∧ 1 ≤ x.sq ∧ x.sq ≤ 4
def CeSm (c : CeR) : Prop := Z7g ⟨c.x.cl, c.x.seq⟩ ∧ c.S.length ≤ 12 ∧ Zbi c.S
def nmOf (e : ZbY) : NmD := ⟨e.cl, e.sq⟩
abbrev EMap := List (NmD × ZbY)
section
variable {last tm : Int} {lg : NmD → Bool} {M : EMap} {e : ZbY} {L : List CeR} {c : CeR}
structure EOk (M : EMap) : Prop where
 nd : (M.map (·.1)).Nodup
 nm : ∀ x ∈ M, x.1 = nmOf x.2
 sm : ∀ x ∈ M, Z7g x.1
end
section
variable {κ ν : Type} [DecidableEq κ] {l : List (κ × ν)} {a : κ} {v : ν}
theorem Z96 {y : κ × ν} (h : y ∈ Z3q l a v) : y = (a, v) ∨ y ∈ l := by
 unfold Z3q at h
 split at h
 ·obtain ⟨z, hz, e⟩ := List.mem_map.1 h
  split at e
  ·exact .inl e.symm
  ·exact .inr (e ▸ hz)
 ·rcases List.mem_append.1 h with h | h
  ·exact .inr h
  ·exact .inl (List.mem_singleton.1 h)
theorem Z5L {x : ν} (h : Zm l a = some x) : (a, x) ∈ l := by
 unfold Zm at h
 obtain ⟨y, hy, rfl⟩ := Option.map_eq_some_iff.1 h
 have h1 := List.find?_some hy
 have h2 := List.mem_of_find?_eq_some hy
 have h3 : y.1 = a := by simpa using h1
 rw [← h3]; exact h2
theorem Z4Q : Zm l a = none ↔ a ∉ l.map (·.1) := by
 unfold Zm
 rw [Option.map_eq_none_iff, List.find?_eq_none]
 constructor
 ·intro h hm
  obtain ⟨y, hy, rfl⟩ := List.mem_map.1 hm
  exact h y hy (by simp)
 ·intro h y hy he
  have h3 : y.1 = a := by simpa using he
  exact h (h3 ▸ List.mem_map_of_mem hy)
theorem ZaE : (Z3q l a v).map (·.1) = if a ∈ l.map (·.1) then l.map (·.1) else l.map (·.1) ++ [a] := by
 unfold Z3q
 split
 ·rw [List.map_map]
  refine List.map_congr_left fun y _ => ?_
  show (if y.1 = a then (a, v) else y).1 = y.1
  split
  ·rename_i e; exact e.symm
  ·rfl
 ·simp
end
theorem Z5M : ∀ (n : Nat) (l : List Nat), l.Nodup → (∀ x ∈ l, x < n) → l.length ≤ n
 | 0, l, _, h => by
  cases l with
  | nil => simp
  | cons x l => exact absurd (h x (by simp)) (Nat.not_lt_zero _)
 | n + 1, l, hn, h => by
  have ih := Z5M n (l.erase n) (hn.erase n) fun x hx => by
   have h1 := (List.Nodup.mem_erase_iff hn).1 hx
   have h2 := h x h1.2
   have := h1.1
   omega
  by_cases hm : n ∈ l
  ·have := List.length_erase_of_mem hm; omega
  ·rw [List.erase_of_not_mem hm] at ih; omega
section
variable {last tm : Int} {lg : NmD → Bool} {M : EMap} {e : ZbY} {L : List CeR} {c : CeR}
theorem EOk.nil : EOk [] := ⟨List.nodup_nil, by simp, by simp⟩
theorem EOk.put (h : EOk M) (hs : Z7g (nmOf e)) : EOk (Z3q M (nmOf e) e) := by
 refine ⟨?_, fun x hx => ?_, fun x hx => ?_⟩
 ·rw [ZaE]
  split
  ·exact h.nd
  ·rename_i q
   rw [List.nodup_append]
   exact ⟨h.nd, by simp, fun a ha b hb e => by rw [List.mem_singleton.1 hb] at e; exact q (e ▸ ha)⟩
 ·rcases Z96 hx with rfl | hx
  ·rfl
  ·exact h.nm x hx
 ·rcases Z96 hx with rfl | hx
  ·exact hs
  ·exact h.sm x hx
theorem EOk.len (h : EOk M) : M.length ≤ 12 := by
 have hm := Z5M 12 ((M.map (·.1)).map fun x => (x.cl * 4 + (x.sq - 1)).toNat) ?_ ?_
 ·simpa using hm
 ·rw [List.Nodup, List.pairwise_map]
  refine List.Pairwise.imp_of_mem ?_ h.nd
  intro a b ha hb hne e
  obtain ⟨x, hx, rfl⟩ := List.mem_map.1 ha
  obtain ⟨y, hy, rfl⟩ := List.mem_map.1 hb
  have hx' := h.sm x hx
  have hy' := h.sm y hy
  unfold Z7g at hx' hy'
  apply hne
  have h1 : x.1.cl = y.1.cl := by omega
  have h2 : x.1.sq = y.1.sq := by omega
  cases hx1 : x.1; cases hy1 : y.1
  simp_all
 ·intro z hz
  obtain ⟨a, ha, rfl⟩ := List.mem_map.1 hz
  obtain ⟨x, hx, rfl⟩ := List.mem_map.1 ha
  have := h.sm x hx
  unfold Z7g at this
  omega
theorem EOk.inj (h : EOk M) : ∀ a ∈ M.map (·.2), ∀ b ∈ M.map (·.2), nmOf a = nmOf b → a = b := fun a ha b hb e => by
 obtain ⟨x, hx, rfl⟩ := List.mem_map.1 ha
 obtain ⟨y, hy, rfl⟩ := List.mem_map.1 hb
 have e2 : x.1 = y.1 := by rw [h.nm x hx, h.nm y hy, e]
 obtain ⟨i, hi, hxi⟩ := List.mem_iff_getElem.1 hx
 obtain ⟨j, hj, hyj⟩ := List.mem_iff_getElem.1 hy
 have key : i = j := by
  have hp := List.pairwise_iff_getElem.1 h.nd
  rcases Nat.lt_trichotomy i j with q | q | q
  ·exact absurd (by rw [List.getElem_map, List.getElem_map, hxi, hyj, e2]) (hp i j (by simpa using hi) (by simpa using hj) q)
  ·exact q
  ·exact absurd (by rw [List.getElem_map, List.getElem_map, hxi, hyj, e2]) (hp j i (by simpa using hj) (by simpa using hi) q)
 subst key
 rw [← hxi, ← hyj]
end
section
variable {last tm : Int} {lg : NmD → Bool} {M M' : EMap} {A C : List CeR} {P : List PrR} {i k : Nat} {w : World}
theorem Z3D (h : k < C.length) : C.getD k ce0 ∈ C := by
 rw [List.getD_eq_getElem?_getD, List.getElem?_eq_getElem h]; exact List.getElem_mem h
theorem Zam (h : i < P.length) : P.getD i pr0 ∈ P := by
 rw [List.getD_eq_getElem?_getD, List.getElem?_eq_getElem h]; exact List.getElem_mem h
def PSm (P : List PrR) : Prop := ∀ p ∈ P, ∀ c ∈ p.C, CeSm c
theorem PSm.at (h : PSm P) (hi : i < P.length) (hk : k < (P.getD i pr0).C.length) : CeSm ((P.getD i pr0).C.getD k ce0) := h _ (Zam hi) _ (Z3D hk)
theorem PSm.all (h : PSm P) : ∀ c ∈ P.flatMap (·.C), CeSm c := fun c hc => by
 obtain ⟨p, hp, hc⟩ := List.mem_flatMap.1 hc
 exact h p hp c hc
variable {LM : List (NmD × Bool)} {lg : NmD → Bool} {c : CeR} {v : ZbY}
end
section
variable {P : Program} {t : TypeId} {X : Type} [DecidableEq X]
structure Flat (P : Program) (t : TypeId) (enc : X → List Value) : Prop where
 eq : ∀ (w : World) (x y : X), (Op.equalIn 10000 t (.agg ⟨enc x⟩) (.agg ⟨enc y⟩)).run P w = .ok (decide (x = y)) w
 held : P.eqGuardType P.depth t = false
variable {enc : X → List Value}
theorem Flat.e_eq (F : Flat P t enc) {n : Nat} {f : Nat → Value} {w : World} {dst : Option Tmp} {ty : TypeId} {pos : String} {aft : Array Edge} {gd : Option (Nat × Bool)} {x y : Operand} {T : TypeId} (a b : X) (hx : ev n f x = .agg ⟨enc a⟩) (hy : ev n f y = .agg ⟨enc b⟩) :
  (execOp (ev n f) ⟨dst, .binOp .eql t x y T, ty, pos, aft, gd⟩).run P w = .ok (.value (.bool (decide (a = b)))) w := by
 have h : (Op.equalIn 10000 t (.agg ⟨enc a⟩) (.agg ⟨enc b⟩)).run P w = .ok (decide (a = b)) w := F.eq w a b
 simp only [execOp, hx, hy]
 simp only [Sem.run_bind, run_eqGuard_agg w _ _ _ _ _ _ F.held, Result.andThen_ok, run_eql_struct, h, Sem.run_pure]
theorem Flat.e_ne (F : Flat P t enc) {n : Nat} {f : Nat → Value} {w : World} {dst : Option Tmp} {ty : TypeId} {pos : String} {aft : Array Edge} {gd : Option (Nat × Bool)} {x y : Operand} {T : TypeId} (a b : X) (hx : ev n f x = .agg ⟨enc a⟩) (hy : ev n f y = .agg ⟨enc b⟩) :
  (execOp (ev n f) ⟨dst, .binOp .neq t x y T, ty, pos, aft, gd⟩).run P w = .ok (.value (.bool (!decide (a = b)))) w := by
 have h : (Op.equalIn 10000 t (.agg ⟨enc a⟩) (.agg ⟨enc b⟩)).run P w = .ok (decide (a = b)) w := F.eq w a b
 simp only [execOp, hx, hy]
 simp only [Sem.run_bind, run_eqGuard_agg w _ _ _ _ _ _ F.held, Result.andThen_ok, run_neq_struct, h, Sem.run_pure]
end
section
variable {P : Program} {n : Nat} {f : Nat → Value} {w : World} {dst : Option Tmp} {ty : TypeId} {pos : String} {aft : Array Edge} {gd : Option (Nat × Bool)}
end
instance : DecidableEq ZbY := fun a b =>
 if h : a.cl = b.cl ∧ a.sq = b.sq ∧ a.h = b.h ∧ a.t = b.t then .isTrue (by cases a; cases b; simp_all) else .isFalse (fun e => h (by rw [e]; simp))
def Z6c (a b : Int) : Value := .agg ⟨[.int .i64 a, .int .i64 b]⟩
theorem Z3J (w : World) (a b c d : Int) : (Op.equalIn 9999 24 (Z6c a b) (Z6c c d)).run Tryz.prog w = .ok (decide (a = c ∧ b = d)) w := by
 have ei := fun a b => run_equalIn_int (P := Tryz.prog) w 9997 3 .i64 .i64 a b Tryz.underlying3
 refine (Z1S (d := 9998) _ [a == c, b == d] Tryz.underlying24 (by kernel_rfl)
  ⟨⟨by decide, .int .i64 a, .int .i64 c, by kernel_rfl, by kernel_rfl, ei _ _⟩, ⟨by decide, .int .i64 b, .int .i64 d, by kernel_rfl, by kernel_rfl, ei _ _⟩, trivial⟩).trans ?_
 congr 1
 rw [Bool.eq_iff_iff]
 simp
theorem Zb5 (a b : Int) : Instr.sameBits 10000 (.agg ⟨[.int .i64 a, .int .i64 b]⟩) (.agg ⟨[.int .i64 a, .int .i64 b]⟩) = true := by simp [Instr.sameBits]
theorem nmK : KeyTy Tryz.prog 24 nmV := KeyTy.deep (by kernel_rfl) (fun w em a => by cases em <;> kernel_rfl) (fun w x y => by
 simp only [Op.equal, Op.maxDepth, nmV, Z1c]
 simp [go_sem]
 obtain ⟨x1, x2⟩ := x
 obtain ⟨y1, y2⟩ := y
 by_cases h1 : x1 = y1 <;> by_cases h2 : x2 = y2 <;> simp_all) (fun a => Zb5 _ _)
theorem Z8O {n : Nat} {f : Nat → Value} {w : World} {dst : Option Tmp} {ty : TypeId} {pos : String} {aft : Array Edge} {gd : Option (Nat × Bool)} {x y : Operand} {T : TypeId} (a b c d : Int) (hx : ev n f x = .agg ⟨[.int .i64 a, .int .i64 b]⟩) (hy : ev n f y = .agg ⟨[.int .i64 c, .int .i64 d]⟩) :
  (execOp (ev n f) ⟨dst, .binOp .eql 24 x y T, ty, pos, aft, gd⟩).run Tryz.prog w = .ok (.value (.bool (decide (a = c ∧ b = d)))) w := by
 simp only [execOp, hx, hy]
 simp [go_sem]
 by_cases h1 : a = c <;> by_cases h2 : b = d <;> simp_all
instance : DecidableEq Za := fun a b =>
 if h : a.r = b.r ∧ a.cl = b.cl ∧ a.seq = b.seq ∧ a.h = b.h ∧ a.t = b.t ∧ a.sb = b.sb ∧ a.sm = b.sm then .isTrue (by cases a; cases b; simp_all) else .isFalse (fun e => h (by rw [e]; simp))
instance : DecidableEq Zg := fun a b =>
 if h : a.cl = b.cl ∧ a.seq = b.seq ∧ a.h = b.h ∧ a.len = b.len ∧ a.sb = b.sb ∧ a.sm = b.sm then .isTrue (by cases a; cases b; simp_all) else .isFalse (fun e => h (by rw [e]; simp))
instance : DecidableEq DenyD := fun a b =>
 if h : a.r = b.r ∧ a.i = b.i ∧ a.sb = b.sb ∧ a.sm = b.sm then .isTrue (by cases a; cases b; simp_all) else .isFalse (fun e => h (by rw [e]; simp))
theorem Z4j (w : World) (a b c d : Int) : (Op.equalIn 9999 29 (Z6c a b) (Z6c c d)).run Tryz.prog w = .ok (decide (a = c ∧ b = d)) w := by
 have ei := fun a b => run_equalIn_int (P := Tryz.prog) w 9997 3 .i64 .i64 a b Tryz.underlying3
 refine (Z1S (d := 9998) _ [a == c, b == d] Tryz.underlying29 (by kernel_rfl)
  ⟨⟨by decide, .int .i64 a, .int .i64 c, by kernel_rfl, by kernel_rfl, ei _ _⟩, ⟨by decide, .int .i64 b, .int .i64 d, by kernel_rfl, by kernel_rfl, ei _ _⟩, trivial⟩).trans ?_
 congr 1
 rw [Bool.eq_iff_iff]
 simp
theorem stF_i (w : World) (s : Za) : (part 3 ⟨Z0q s⟩ 0).run Tryz.prog w = .ok (.int .i64 s.r) w ∧ (part 24 ⟨Z0q s⟩ 1).run Tryz.prog w = .ok (Z6c s.cl s.seq) w ∧ (part 26 ⟨Z0q s⟩ 3).run Tryz.prog w = .ok (Z8j s.h) w ∧ (part 27 ⟨Z0q s⟩ 35).run Tryz.prog w = .ok (.int .u64 s.t) w ∧ (part 29 ⟨Z0q s⟩ 36).run Tryz.prog w = .ok (Z6c s.sb s.sm) w :=
 ⟨by kernel_rfl, by kernel_rfl, by kernel_rfl, by kernel_rfl, by kernel_rfl⟩
theorem stF : Flat Tryz.prog 101 Z0q := by
 refine ⟨fun w x y => ?_, by kernel_rfl⟩
 obtain ⟨x1, x2, x3, x4, x5⟩ := stF_i w x
 obtain ⟨y1, y2, y3, y4, y5⟩ := stF_i w y
 have ei := fun a b => run_equalIn_int (P := Tryz.prog) w 9998 3 .i64 .i64 a b Tryz.underlying3
 have eu := fun a b => run_equalIn_int (P := Tryz.prog) w 9998 27 .u64 .u64 a b Tryz.underlying27
 refine (Z1S (d := 9999) _ [x.r == y.r, decide (x.cl = y.cl ∧ x.seq = y.seq), decide (x.h = y.h), x.t == y.t, decide (x.sb = y.sb ∧ x.sm = y.sm)] Tryz.underlying101 (by kernel_rfl)
  ⟨⟨by decide, _, _, x1, y1, ei _ _⟩, ⟨by decide, _, _, x2, y2, Z3J w _ _ _ _⟩, ⟨by decide, _, _, x3, y3, Z2T w 9997 _ _⟩, ⟨by decide, _, _, x4, y4, eu _ _⟩, ⟨by decide, _, _, x5, y5, Z4j w _ _ _ _⟩, trivial⟩).trans ?_
 congr 1
 obtain ⟨a1, a2, a3, a4, a5, a6, a7⟩ := x
 obtain ⟨b1, b2, b3, b4, b5, b6, b7⟩ := y
 rw [Bool.eq_iff_iff]
 simp [and_assoc]
theorem coF_i (w : World) (s : Zg) : (part 24 ⟨Z43 s⟩ 0).run Tryz.prog w = .ok (Z6c s.cl s.seq) w ∧ (part 26 ⟨Z43 s⟩ 2).run Tryz.prog w = .ok (Z8j s.h) w ∧ (part 3 ⟨Z43 s⟩ 34).run Tryz.prog w = .ok (.int .i64 s.len) w ∧ (part 29 ⟨Z43 s⟩ 35).run Tryz.prog w = .ok (Z6c s.sb s.sm) w :=
 ⟨by kernel_rfl, by kernel_rfl, by kernel_rfl, by kernel_rfl⟩
theorem coF : Flat Tryz.prog 50 Z43 := by
 refine ⟨fun w x y => ?_, by kernel_rfl⟩
 obtain ⟨x1, x2, x3, x4⟩ := coF_i w x
 obtain ⟨y1, y2, y3, y4⟩ := coF_i w y
 have ei := fun a b => run_equalIn_int (P := Tryz.prog) w 9998 3 .i64 .i64 a b Tryz.underlying3
 refine (Z1S (d := 9999) _ [decide (x.cl = y.cl ∧ x.seq = y.seq), decide (x.h = y.h), x.len == y.len, decide (x.sb = y.sb ∧ x.sm = y.sm)] Tryz.underlying50 (by kernel_rfl)
  ⟨⟨by decide, _, _, x1, y1, Z3J w _ _ _ _⟩, ⟨by decide, _, _, x2, y2, Z2T w 9997 _ _⟩, ⟨by decide, _, _, x3, y3, ei _ _⟩, ⟨by decide, _, _, x4, y4, Z4j w _ _ _ _⟩, trivial⟩).trans ?_
 congr 1
 obtain ⟨a1, a2, a3, a4, a5, a6⟩ := x
 obtain ⟨b1, b2, b3, b4, b5, b6⟩ := y
 rw [Bool.eq_iff_iff]
 simp [and_assoc]
theorem Zcv {n : Nat} {f : Nat → Value} {w : World} {dst : Option Tmp} {ty : TypeId} {pos : String} {aft : Array Edge} {gd : Option (Nat × Bool)} {x y : Operand} {T : TypeId} (a b c d : Int) (hx : ev n f x = .agg ⟨[.int .i64 a, .int .i64 b]⟩) (hy : ev n f y = .agg ⟨[.int .i64 c, .int .i64 d]⟩) :
  (execOp (ev n f) ⟨dst, .binOp .eql 29 x y T, ty, pos, aft, gd⟩).run Tryz.prog w = .ok (.value (.bool (decide (a = c ∧ b = d)))) w := by
 simp only [execOp, hx, hy]
 simp [go_sem]
 by_cases h1 : a = c <;> by_cases h2 : b = d <;> simp_all
end Go.Proofs.YtoaifondpohniaaGreat
namespace Go.Proofs.YtoaifondpohniaaGreat
open Go.ChangeShapes Go.WideShapes Go.ChangeAt Go.RowKit Go.Deep
section
variable {H : Type} {enc : TypeId × Value → H} {P : Program} {W : World}
theorem Z9l {z : Int} (h : (Lit.int .u64 z).wf = true) : 0 ≤ z ∧ z ≤ 18446744073709551615 := by
 simpa [Lit.wf, IntKind.min, IntKind.max, IntKind.signed, IntKind.bits] using h
def Z9U (w : World) (a : Addr) (x : Int) : Prop := w.cell? a = some (.int .u64 x)
theorem ZaS {t e : TypeId} (ht : P.underlying t = some (.slice e)) (he : P.underlying e = some (.int .u64)) (hc : P.cellsOf e = 1) {v : Value} {d : DataW H} {ps : List MemPlace} (hv : ∃ a len cap, v = .slice a len cap)
  (h : DataW.Trod enc P W 0 (fun _ => true) true t v d ps) : ∃ xs, (∀ x ∈ xs, 0 ≤ x ∧ x ≤ 18446744073709551615) ∧ ListAt Z3y 1 W v xs := by
 obtain ⟨xs, hx⟩ := Z3K (R := fun w a x => Z9U w a x ∧ 0 ≤ x ∧ x ≤ 18446744073709551615) ht hc (by omega) hv h (fun cs n y b off hl hcs hy => by
  obtain ⟨z, rfl, hz⟩ := Z0G he hy
  exact ⟨z, hcs 0 (by simp), Z9l hz⟩)
 refine ⟨xs, fun n hn => ?_, SliceOf.imp hx fun a x h j u hj => ?_⟩
 ·obtain ⟨i, hi, rfl⟩ := List.mem_iff_getElem.1 hn
  obtain ⟨b, off, cap, _, _, hall⟩ := hx.some (by omega)
  exact (hall i hi).2
 ·match j, hj with
  | 0, hj =>
   simp only [Z3y, List.getElem?_cons_zero, Option.some.injEq] at hj
   subst hj
   have := h.1
   obtain ⟨b, o, s⟩ := a
   unfold Z9U at this
   have e : (⟨b, o, s⟩ : Addr).add 0 = ⟨b, o, s⟩ := by cases s <;> simp [Addr.add]
   rw [e]; exact this
  | _ + 1, hj => simp [Z3y] at hj
end
end Go.Proofs.YtoaifondpohniaaGreat
