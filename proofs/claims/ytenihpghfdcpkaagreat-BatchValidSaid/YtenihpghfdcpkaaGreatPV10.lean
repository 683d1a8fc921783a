/- WHAT IS PROVED: contracts and plain laws of Rt, DenyT, PBook, ShaM. Conditions: stated with each. -/
import Derived.Test.YtenihpghfdcpkaaGreatPV02
import Derived.Test.YtenihpghfdcpkaaGreatPV05
import Derived.Test.YtenihpghfdcpkaaGreatPV06
import Derived.Test.YtenihpghfdcpkaaGreatPV08
set_option maxHeartbeats 4000000
set_option maxRecDepth 100000
namespace Go.Proofs.YtenihpghfdcpkaaGreat
open Go.RowKit
abbrev kRt_0 (p0 : Option Addr) (p1 : List UInt8) (p2 : Nat) : Ck := Zo 5 1 (.slice p0 p1.length p2) p1.length (p1.flatMap Zx)
theorem Zb4 {f m : Nat} (hm : m < 128 ^ f) (h : 128 ≤ m) : 0 < f - 1 ∧ m / 128 < 128 ^ (f - 1) ∧ Zav f m = UInt8.ofNat ((m : Int) % 128 + 128).toNat :: Zav (f - 1) (m / 128) := by
 have := Z9c hm h
 rw [Z9s om] at this
 exact this
theorem Z61 (w : World) (n : Nat) (hn : n < 18446744073709551616) :
  Calls Tryz.prog 113 #[(u6 ((n : Int)))] w fun e w' => ∃ u, e = .returned u ∧ (Zo 5 1 u (Z1I n).length ((Z1I n).flatMap Zx)).ok w' ∧ Upd [] w w' ∧ ∀ q_, (Zo 5 1 u (Z1I n).length ((Z1I n).flatMap Zx)).fp q_ → w.heap.size ≤ q_ := by
 have H := Sat.start0 w
 refine Zg Tryz.func113 rfl 20 rfl kn ?_
 refine zsl <| wv 2 (.slice none 0 0) <| Z1a <| wv 3 (.slice none 0 0) <| znt <| Z9 <| Zh ?_
 have H1 := H.addNil 5 1
 refine ZB ([0] ++ List.range' 3 12) (fun F_ W_ m_ => ∃ (m : Nat) (a : Option Addr) (c : Nat) (D : List UInt8) (f : Nat), F_ 0 = (vu m) ∧ F_ 3 = (.slice a D.length c) ∧ (0 < f ∧ m < 128 ^ f ∧ m < 18446744073709551616) ∧ (D ++ Zav f m = Z1I n) ∧ (D.length + f ≤ 10) ∧ Sat w [zR w, (kRt_0 a D c)] W_ ∧ m_ = m + 1) _ ⟨n, none, 0, [], 10, (show ((vu n) : Value) = _ by first | rfl | go_num), (by first | rfl | go_num), ⟨by omega, by omega, hn⟩, rfl, (by decide), H1, rfl⟩ ?_
 rintro g2 w3 _ ⟨m, a, c, D, f, v5, v6, hm, hD, hf, H4, rfl⟩
 refine Zn 0 _ v5 ?_
 refine Zn 3 _ v6 ?_
 refine Z9 <| zsl <| wv 4 (vu m) <| wv 5 (.bool (decide ((m : Int) ≥ 128))) <| znt ?_
 refine zid (fun b8 g9 => ?_) fun b8 g24 => ?_
 ·refine Zp <| ztn <| Zh <| zsl <| wv 6 (.slice a D.length c) <| wv 7 (vu m) <| wv 8 (vu ((m : Int) % 128)) ?_ (hr := Z7E kr om om)
  refine wv 9 (.int .u8 ((m : Int) % 128)) ?_ (hr := Z0A (z := (m : Int) % 128) kr (Z6n om))
  let A2 : Value := .int .u8 (((m : Int) % 128) + 128)
  refine wv 10 A2 ?_ (hr := Z0A (z := ((m : Int) % 128) + 128) kr (Z6n om))
  refine zy <| Z2z 5 1 1 (.int .u8 (0)) [(0, A2)] ([A2] : LV) H4 fun b12 w13 H14 => ?_
  have H15 := H14.ct 2 rfl (Zo 5 1 (.slice (some ⟨b12, 0, none⟩) 1 1) 1 ([UInt8.ofNat (((m : Int) % 128) + 128).toNat].flatMap Zx)) (by rw [Z33 om])
  refine kk <| zy <| Z0t (T := 84) (e := 5) (size := 1) (bytes := 1) rfl H15 kr 1 2 rfl rfl rfl rfl (Z0q Zx Z1c [UInt8.ofNat (((m : Int) % 128) + 128).toNat]) om om fun v17 w18 H19 => ?_
  have H22 := H19.ct 1 rfl (Zo 5 1 v17 ((D ++ [UInt8.ofNat (((m : Int) % 128) + 128).toNat]).length) ((D ++ [UInt8.ofNat (((m : Int) % 128) + 128).toNat]).flatMap Zx)) ja
  obtain ⟨a20, c21, rfl⟩ := Z3 (H22.at 1 rfl)
  let A0 : Value := .slice a20 ((D ++ [UInt8.ofNat (((m : Int) % 128) + 128).toNat]).length) c21
  refine kk <| wv 3 A0 <| znt <| ZG <| wv 13 (vu m) <| wv 14 (vu ((m : Int) / 128)) ?_ (hr := ZbR kr om om (Z1h om))
  refine wv 0 (vu ((m : Int) / 128)) <| ZL <| Z6 ?_
  have hv := Zb4 hm.2.1 (show 128 ≤ m by omega)
  have H23 := H22.pk [0, 1]
  refine Za ?_ _ ⟨(m / 128), a20, c21, (D ++ [UInt8.ofNat (((m : Int) % 128) + 128).toNat]), (f - 1), rfl, (show (A0 : Value) = _ by first | rfl | go_num), ⟨hv.1, hv.2.1, by omega⟩, (by rw [hv.2.2] at hD; simpa using hD), (by rw [List.length_append]; simp only [List.length_cons, List.length_nil]; omega), H23, rfl⟩ om
  exact zs
 let A3 : Value := .int .u8 ((m : Int) % 256)
 refine zxb <| ztn <| zsl <| wv 15 (.slice a D.length c) <| wv 16 (vu m) <| wv 17 A3 ?_ (hr := Z0A (z := (m : Int)) kr (by rw [Z3X]))
 refine zy <| Z2z 5 1 1 (.int .u8 (0)) [(0, A3)] ([A3] : LV) H4 fun b27 w28 H29 => ?_
 have H30 := H29.ct 2 rfl (Zo 5 1 (.slice (some ⟨b27, 0, none⟩) 1 1) 1 ([UInt8.ofNat ((m : Int) % 256).toNat].flatMap Zx)) (by rw [Z33 om])
 refine kk <| zy <| Z0t (T := 84) (e := 5) (size := 1) (bytes := 1) rfl H30 kr 1 2 rfl rfl rfl rfl (Z0q Zx Z1c [UInt8.ofNat ((m : Int) % 256).toNat]) om om fun v32 w33 H34 => ?_
 have H37 := H34.ct 1 rfl (Zo 5 1 v32 ((D ++ [UInt8.ofNat ((m : Int) % 256).toNat]).length) ((D ++ [UInt8.ofNat ((m : Int) % 256).toNat]).flatMap Zx)) ja
 obtain ⟨a35, c36, rfl⟩ := Z3 (H37.at 1 rfl)
 let A1 : Value := .slice a35 ((D ++ [UInt8.ofNat ((m : Int) % 256).toNat]).length) c36
 refine kk <| wv 2 A1 <| znt <| Zk <| ze1 A1 ?_
 have hv := Z8S hm.1 (show m < 128 by omega)
 have hX : (D ++ [UInt8.ofNat ((m : Int) % 256).toNat]) = Z1I n := by rw [← hD, hv]
 exact ⟨_, rfl, (by rw [← hX]; exact H37.at 1 rfl), H37.upd 0 rfl [] ne, (by rw [← hX]; exact H37.fresh 0 rfl (fun _ h => h) 1 rfl rfl)⟩
theorem Z1b (w : World) (n : Int) (hn : n ≤ 9223372036854775807) :
  Calls Tryz.prog 81 #[i6 n] w fun e w' => ∃ u, e = .returned u ∧ (Zo 5 1 u (Z5 n).length ((Z5 n).flatMap Zx)).ok w' ∧ Upd [] w w' ∧ ∀ q_, (Zo 5 1 u (Z5 n).length ((Z5 n).flatMap Zx)).fp q_ → w.heap.size ≤ q_ := by
 have H := Sat.start0 w
 obtain ⟨k, hk⟩ : ∃ k : Nat, (k : Int) = max n 0 := ⟨(max n 0).toNat, by omega⟩
 refine Zg Tryz.func81 rfl 7 rfl kn ?_
 refine zsl <| wv 2 (.slice none 0 0) <| Z1a <| wv 3 (vi n) <| wv 4 (vi (max n 0)) ?_ (hr := Zeh (k := .i64) (a := n) (b := 0) (z := max n 0) rfl rfl rfl)
 refine wv 5 (vu k) ?_ (hr := Z0A (z := max n 0) kr ((by rw [← hk]; exact Z1h om)))
 refine zy <| zdc 6 (Z61 w k om) ?_
 rintro _ w2 ⟨u3, rfl, k4, p5, q6⟩
 have H7 := H.addU p5 k4 q6
 obtain ⟨a8, c9, rfl⟩ := Z3 (H7.at 1 rfl)
 refine ⟨_, rfl, ?_⟩
 refine kk <| wv 2 (.slice a8 ((Z1I k).length) c9) <| znt <| Zk <| ze1 (.slice a8 ((Z1I k).length) c9) ?_
 have hX : (Z1I k) = Z5 n := by unfold Z5; rw [show (max 0 n).toNat = k by omega]
 exact ⟨_, rfl, (by rw [← hX]; exact H7.at 1 rfl), H7.upd 0 rfl [] ne, (by rw [← hX]; exact H7.fresh 0 rfl (fun _ h => h) 1 rfl rfl)⟩
theorem Z3Y (w : World) (v : Value) (s : List UInt8) (hs : ListAt Zx 1 w v s) (hl : s.length ≤ 1000000) :
  Calls Tryz.prog 80 #[v] w fun e w' => ∃ u, e = .returned u ∧ (Zo 5 1 u (Zm s).length ((Zm s).flatMap Zx)).ok w' ∧ Upd [] w w' ∧ ∀ q_, (Zo 5 1 u (Zm s).length ((Zm s).flatMap Zx)).fp q_ → w.heap.size ≤ q_ := by
 have H := Sat.start0 w
 obtain ⟨a, c, rfl⟩ := ListAt.len hs
 have hi10 := ZA (s.length : Int)
 refine Zg Tryz.func80 rfl 8 rfl kn ?_
 refine zsl <| wv 2 (.slice none 0 0) <| Z1a <| wv 3 (.slice a s.length c) <| wv 4 (vi s.length) <| zy <| zdc 5 (Z1b w (s.length : Int) om) ?_
 rintro _ w2 ⟨u3, rfl, k4, p5, q6⟩
 have H7 := H.addU p5 k4 q6
 obtain ⟨a8, c9, rfl⟩ := Z3 (H7.at 1 rfl)
 refine ⟨_, rfl, ?_⟩
 refine kk <| wv 6 (.slice a s.length c) <| zy <| Z4q (T := 84) (e := 5) (size := 1) (bytes := 1) rfl H7 kr Zw Z1c 1 rfl (ListAt.now H7 0 rfl hs) rfl rfl om om fun v11 w12 H14 => ?_
 have H13 := H14.ct 1 rfl (Zo 5 1 v11 (((Z5 (s.length : Int)) ++ s).length) (((Z5 (s.length : Int)) ++ s).flatMap Zx)) (by simp only [List.length_append, List.flatMap_append])
 obtain ⟨a15, c16, rfl⟩ := Z3 (H13.at 1 rfl)
 refine kk <| wv 2 (.slice a15 (((Z5 (s.length : Int)) ++ s).length) c16) <| znt <| Zk <| ze1 (.slice a15 (((Z5 (s.length : Int)) ++ s).length) c16) ?_
 have hX : ((Z5 (s.length : Int)) ++ s) = Zm s := by unfold Zm Z5; rw [show (max 0 (s.length : Int)).toNat = s.length by omega]
 exact ⟨_, rfl, (by rw [← hX]; exact H13.at 1 rfl), H13.upd 0 rfl [] ne, (by rw [← hX]; exact H13.fresh 0 rfl (fun _ h => h) 1 rfl rfl)⟩
theorem Z1p (w : World) (v : Value) (vs : LV) (ss : List (List UInt8)) (hv : ListAt Z9k 1 w v vs) (hs : Parts w vs ss) (hl : ss.flatten.length ≤ 1000000) (hk : vs.length ≤ 1000) :
  Calls Tryz.prog 79 #[v] w fun e w' => ∃ u, e = .returned u ∧ (Zo 5 1 u ss.flatten.length (ss.flatten.flatMap Zx)).ok w' ∧ Upd [] w w' ∧ ∀ q_, (Zo 5 1 u ss.flatten.length (ss.flatten.flatMap Zx)).fp q_ → w.heap.size ≤ q_ := by
 have H := Sat.start0 w
 obtain ⟨a0, c0, rfl⟩ := ListAt.len hv
 have hsl := hs.len
 refine Zg Tryz.func79 rfl 18 rfl kn ?_
 refine zsl <| wv 2 (.slice none 0 0) <| Z1a <| wv 3 (.slice none 0 0) <| znt <| Z9 <| zsl <| wv 5 (.slice a0 vs.length c0) <| wv 6 (vi vs.length) <| wv 7 (vi 0) ?_
 refine znt <| Zh ?_
 have H1 := H.addNil 5 1
 refine ZB ([3, 4] ++ List.range' 7 10) (fun F_ W_ m_ => ∃ (i : Nat) (a : Option Addr) (c : Nat) (D : List UInt8), F_ 7 = (vi i) ∧ F_ 3 = (.slice a D.length c) ∧ (i ≤ vs.length) ∧ (D = (ss.take i).flatten) ∧ Sat w [zR w, (kRt_0 a D c)] W_ ∧ m_ = vs.length - i) _ ⟨0, none, 0, [], (show ((vi 0) : Value) = _ by first | rfl | go_num), (by first | rfl | go_num), (Nat.zero_le _), rfl, H1, rfl⟩ ?_
 rintro g2 w3 _ ⟨i, a, c, D, v5, v6, hi, hD, H4, rfl⟩
 refine Zn 7 _ v5 ?_
 refine Zn 3 _ v6 ?_
 refine zsl <| wv 8 (.bool (decide ((i : Int) < vs.length))) <| znt <| Z9 ?_
 refine zid (fun b8 g9 => ?_) fun b8 g23 => ?_
 ·refine Zp <| ztn <| Z9 <| Zh <| zsl <| wv 9 (vi i) <| wv 4 (vi i) <| znt <| ZG <| wv 10 (.slice a D.length c) ?_
  refine wv 11 (.slice a0 vs.length c0) <| wv 12 (vi i) ?_
  obtain ⟨g11, o12, c13, e14, R15⟩ := SliceOf.atD hv undef (show i < vs.length by omega)
  refine wv 13 (.pointer (some ⟨g11, o12 + ((i : Int)).toNat * 1, none⟩)) ?_ (hr := Z8 (E := 84) kr kr kn rfl e14 rfl om om)
  refine zw1 14 (vs.getD i undef) (H4.cellR 0 rfl (Z0f R15 0 kr (show o12 + ((i : Int)).toNat * 1 = o12 + i * 1 + 0 by omega)) (fun h => h)) <| zy <| Z4q (T := 84) (e := 5) (size := 1) (bytes := 1) rfl H4 kr Zw Z1c 1 rfl (ListAt.now H4 0 rfl (hs.get i (by have := hs.len; omega))) rfl rfl (by have := Zbj ss (i := i) om; rw [hD]; omega) (by have := Zbj ss (i := i) om; rw [hD]; omega) fun v17 w18 H20 => ?_
  have H19 := H20.ct 1 rfl (Zo 5 1 v17 ((D ++ (ss.getD i [])).length) ((D ++ (ss.getD i [])).flatMap Zx)) (by simp only [List.length_append, List.flatMap_append])
  obtain ⟨a21, c22, rfl⟩ := Z3 (H19.at 1 rfl)
  let A0 : Value := .slice a21 ((D ++ (ss.getD i [])).length) c22
  refine kk <| wv 3 A0 <| ZL <| Z6 <| ztn <| ZG <| zwi 16 ((i : Int) + 1) <| wv 7 (vi ((i : Int) + 1)) <| ZL <| Za ?_ _ ⟨(i + 1), a21, c22, (D ++ (ss.getD i [])), rfl, (show (A0 : Value) = _ by first | rfl | go_num), om, (by rw [hD, Z8u ss om]), H19, rfl⟩ om
  exact zs
 refine zxb <| ztn <| zsl <| wv 17 (.slice a D.length c) <| wv 2 (.slice a D.length c) <| znt <| Zk <| ze1 (.slice a D.length c) ?_
 have hX : D = ss.flatten := by rw [hD, List.take_of_length_le om]
 exact ⟨_, rfl, (by rw [← hX]; exact H4.at 1 rfl), H4.upd 0 rfl [] ne, (by rw [← hX]; exact H4.fresh 0 rfl (fun _ h => h) 1 rfl rfl)⟩
structure Z1s where
 r : Int
 i : Int
 sb : Int
 sm : Int
deriving DecidableEq
def Z4v (d : Z1s) : List Value := [i6 d.r, i6 d.i, i6 d.sb, i6 d.sm]
theorem ZbU (d : Z1s) : (Z4v d).length = 4 := rfl
theorem ZbN (d : Z1s) : (Z4v d).all (·.oneCell') = true := by simp [Z4v, Value.oneCell']
def Z0F : Z1s := ⟨0, 0, 0, 0⟩
def Z0m (r i : Int) : List UInt8 := [Zm zq4, Z5 r, Z5 i].flatten
theorem Z5i (r i : Int) : (Z0m r i).length ≤ 40 := by
 unfold Z0m
 have h1 := Z0K zq4
 have h2 := ZA r
 have h3 := ZA i
 simp only [List.length_cons, List.length_nil] at h1
 simp only [List.flatten_cons, List.flatten_nil, List.length_append, List.length_nil]
 omega
abbrev Zd9 (p0 : Nat) : List Value := ([(.map (some p0))] : LV)
abbrev ZdY (p0 : Nat) (p1 : List Signed) : Ck := Z2S p0 Z0c (Value.int .i64) (Z0o p1)
abbrev Z68 (p0 : Int) (p1 : Int) : List Value := ([i6 p0, i6 p1] : LV)
abbrev ZdW (p0 : Int) (p1 : Value) : List Value := ([i6 p0, p1] : LV)
abbrev Zac : List Value := ([i6 0, i6 0] : LV)
theorem ZdQ {α : Type} (enc : α → Value) (o : Option α) (z : α) : (o.map enc).getD (enc z) = enc (o.getD z) := by cases o <;> rfl
def pbkL (b mb : Nat) (L : List Signed) (tv : Value) (tx : List UInt8) : List Ck := [Z0 b 179 [.map (some mb)], Z2S mb Z0c (Value.int .i64) (Z0o L), Zo 5 1 tv tx.length (tx.flatMap Zx)]
theorem Z4w (w : World) (b mb : Nat) (L : List Signed) (tv : Value) (tx : List UInt8) (hB : (Z0h (pbkL b mb L tv tx)).ok w) (_hl : L.length ≤ 1000000) (p : Int) :
  Calls Tryz.prog 35 #[zp b, i6 p, tv] w fun e w' => e = .returned (.agg #[i6 p, i6 (Zr (Zy L (⟨p, tx⟩ : Signed)) (⟨p, tx⟩ : Signed))]) ∧ Sat w [Z0 b 179 [.map (some mb)], Z2S mb Z0c (Value.int .i64) (Z0o (Zy L (⟨p, tx⟩ : Signed))), Zo 5 1 tv tx.length (tx.flatMap Zx), ZQ w (Z0h (pbkL b mb L tv tx)).fp] w' := by
 have H := Sat.start (pbkL b mb L tv tx) hB
 have hmk : (Zv (Z0o L) (⟨p, tx⟩ : Signed)).getD 0 = Zr L (⟨p, tx⟩ : Signed) := by rw [Z4E]; rfl
 have hml := Zcp L
 refine Zg Tryz.func35 rfl 38 rfl kn ?_
 refine zsl <| zy <| zda (Zac) H fun b2 w3 H4 => ?_
 refine kk <| Z1a <| wv 8 (vi p) <| wv 9 (tv) <| wv 10 (Z5l tx) ?_ (hr := Z2G (e := 5) (s := tx) kr kr kr rfl (Z25 (ListAt.row (e := 5) (enc := Zx) (sz := 1) (v := tv) (n := tx.length) (xs := tx) Zw (by decide) (H4.at 2 rfl))))
 let A0 := ZdW p (Z5l tx)
 refine wv 11 (.agg ⟨A0⟩) <| zy <| zda ([(vi 0), (Z5l z8)] : LV) H4 fun b6 w7 H8 => ?_
 refine kk <| zy <| Z3e (vs := A0) rfl H8 5 rfl rfl rfl rfl kr kn kn kr fun w10 H11 => ?_
 refine kk <| znt <| Z9 <| Z9 <| zqs H11 ?_
 let A4 : Value := .map (some mb)
 refine qv 12 (pt b 0) <| qv 13 (pt b 0) <| qv 14 (pt b 0) <| qv 15 A4 ?_ (hr := fun _ H' => (zl1 (H'.cell 0 rfl rfl)))
 refine qv 16 (.agg ⟨A0⟩) ?_ (hr := fun _ H' => (zlN (vs := A0) (H'.at 5 rfl)))
 let A5 : Value := vi ((Zv (Z0o L) (⟨p, tx⟩ : Signed)).getD 0)
 refine qv 17 A5 ?_ (hr := fun _ H' => (Z44 (kt := 176) (et := 3) Z5G kr (fun w => by kernel_rfl) rfl (⟨p, tx⟩ : Signed) rfl (H'.at 1 rfl) (ZdQ (Value.int .i64) _ _)))
 refine qv 18 (.bool (decide (((Zv (Z0o L) (⟨p, tx⟩ : Signed)).getD 0) = 0))) <| Z01 fun w13 H14 => ?_
 apply ztn
 let A2 := Zo 5 1 tv tx.length (tx.flatMap Zx)
 let A3 := ZQ w (Z0h (pbkL b mb L tv tx)).fp
 let A6 := Z0 b 179 (Zd9 mb)
 refine zid (fun b15 g16 => ?_) fun b15 g35 => ?_
 ·refine Z0a H14 [A6, A2, A3, Z0 b2 69 (Zac), Z0 b6 176 A0] 12 rfl kr (fun Hx => (Hx.pk [0, 2, 3, 4, 5])) ?_
  intro w18 H19 S20
  refine hv0 0 S20 19 (pt b 0) <| hv0 1 S20 20 (pt b 0) <| hv0 2 S20 21 (pt b 0) <| hv0 3 S20 22 A4 ?_ (he := fun _ H' => (zl1 (H'.cell 0 rfl rfl)))
  refine hv0 4 S20 23 (.agg ⟨A0⟩) ?_ (he := fun _ H' => (zlN (vs := A0) (H'.at 4 rfl)))
  refine hv0 5 S20 24 (pt b 0) <| hv0 6 S20 25 (pt b 0) <| hv0 7 S20 26 (pt b 0) <| hv0 8 S20 27 A4 ?_ (he := fun _ H' => (zl1 (H'.cell 0 rfl rfl)))
  refine zhy 9 ?_
  refine Zef (d := 28) (v := (vi (((Z0o L)).length))) rfl (e_len (kt := 176) (et := 3) kr (H19.at 1 rfl) rfl) ?_
  have S22 := H19.pk [0, 2, 3, 4, 5]
  refine kh S22 <| hv0 10 S22 29 (vi ((((Z0o L)).length : Int) + 1)) ?_ (he := fun _ H' => (Z0A (z := (((Z0o L)).length : Int) + 1) kr (IntWalk.i64_in _ om)))
  refine zhy 11 ?_
  refine Z3a (kt := 176) (et := 3) rfl H19 1 rfl Z5G kr rfl (⟨p, tx⟩ : Signed) rfl ((((Z0o L)).length : Int) + 1) rfl ?_
  intro w24 H25
  have S26 := H25.pk [0, 2, 3, 4, 5]
  refine kh S26 <| zhf <| ztn <| Z9 <| Z0a H25 [A6, Z2S mb Z0c (Value.int .i64) (Z30 (Z0o L) (⟨p, tx⟩ : Signed) ((((Z0o L)).length : Int) + 1)), A2, A3, Z0 b6 176 A0] 9 rfl kr (fun Hx => (Hx.pk [0, 1, 2, 3, 5])) fun w27 H28 S29 => ?_
  refine hv0 0 S29 30 (vi p) <| hv0 1 S29 31 (pt b 0) <| hv0 2 S29 32 (pt b 0) <| hv0 3 S29 33 (pt b 0) <| hv0 4 S29 34 A4 ?_ (he := fun _ H' => (zl1 (H'.cell 0 rfl rfl)))
  refine hv0 5 S29 35 (.agg ⟨A0⟩) ?_ (he := fun _ H' => (zlN (vs := A0) (H'.at 4 rfl)))
  refine hv0 6 S29 36 (vi ((Zv (Z30 (Z0o L) (⟨p, tx⟩ : Signed) ((((Z0o L)).length : Int) + 1)) (⟨p, tx⟩ : Signed)).getD 0)) ?_ (he := fun _ H' => (Z44 (kt := 176) (et := 3) Z5G kr (fun w => by kernel_rfl) rfl (⟨p, tx⟩ : Signed) rfl (H'.at 1 rfl) (ZdQ (Value.int .i64) _ _)))
  refine Z0V 7 rfl kr kr kr (fun _ _ _ h => h) S29 (Zc rfl) (d := 37) (v := (.agg ⟨(Z68 p ((Zv (Z30 (Z0o L) (⟨p, tx⟩ : Signed) ((((Z0o L)).length : Int) + 1)) (⟨p, tx⟩ : Signed)).getD 0))⟩)) rfl (fun _ H' => kr) ?_
  refine zhy 8 ?_
  refine Z3e (vs := (Z68 p ((Zv (Z30 (Z0o L) (⟨p, tx⟩ : Signed) ((((Z0o L)).length : Int) + 1)) (⟨p, tx⟩ : Signed)).getD 0))) rfl H28 4 rfl rfl rfl rfl kr kn kn kr ?_
  intro w31 H32
  have S34 := H32.pk [0, 1, 2, 3, 5]
  refine kh S34 <| zhf <| ztn <| Zk <| Z5v rfl (Z02 (vs := (Z68 p ((Zv (Z30 (Z0o L) (⟨p, tx⟩ : Signed) ((((Z0o L)).length : Int) + 1)) (⟨p, tx⟩ : Signed)).getD 0))) rfl kr kr kn (H32.at 4 rfl) kr) ?_
  have hm : (⟨p, tx⟩ : Signed) ∉ L := fun hc => by
   have q := of_decide_eq_true b15
   rw [hmk] at q
   have := (Z1M hc).1
   omega
  have hs : Zy L (⟨p, tx⟩ : Signed) = L ++ [(⟨p, tx⟩ : Signed)] := by unfold Zy; rw [if_neg hm]
  have hp : (Z30 (Z0o L) (⟨p, tx⟩ : Signed) ((((Z0o L)).length : Int) + 1)) = Z0o (L ++ [(⟨p, tx⟩ : Signed)]) := by rw [hml]; exact Zc9 L _ hm
  exact ⟨by rw [hs, hp, Z4E]; rfl, by rw [hs, ← hp]; exact H32.pk [0, 1, 2, 3]⟩
 refine Zp <| ztn <| Z9 <| Z0a H14 [A6, (ZdY mb L), A2, A3, Z0 b6 176 A0] 9 rfl kr (fun Hx => (Hx.pk [0, 1, 2, 3, 5])) fun w37 H38 S39 => ?_
 refine hv0 0 S39 30 (vi p) <| hv0 1 S39 31 (pt b 0) <| hv0 2 S39 32 (pt b 0) <| hv0 3 S39 33 (pt b 0) <| hv0 4 S39 34 A4 ?_ (he := fun _ H' => (zl1 (H'.cell 0 rfl rfl)))
 refine hv0 5 S39 35 (.agg ⟨A0⟩) ?_ (he := fun _ H' => (zlN (vs := A0) (H'.at 4 rfl)))
 refine hv0 6 S39 36 A5 ?_ (he := fun _ H' => (Z44 (kt := 176) (et := 3) Z5G kr (fun w => by kernel_rfl) rfl (⟨p, tx⟩ : Signed) rfl (H'.at 1 rfl) (ZdQ (Value.int .i64) _ _)))
 let A1 := Z68 p ((Zv (Z0o L) (⟨p, tx⟩ : Signed)).getD 0)
 refine Z0V 7 rfl kr kr kr (fun _ _ _ h => h) S39 (Zc rfl) (d := 37) (v := (.agg ⟨A1⟩)) rfl (fun _ H' => kr) ?_
 refine zhy 8 ?_
 refine Z3e (vs := A1) rfl H38 4 rfl rfl rfl rfl kr kn kn kr ?_
 intro w41 H42
 have S44 := H42.pk [0, 1, 2, 3, 5]
 refine kh S44 <| zhf <| ztn <| Zk <| Z5v rfl (Z02 (vs := A1) rfl kr kr kn (H42.at 4 rfl) kr) ?_
 have hm : (⟨p, tx⟩ : Signed) ∈ L := by
  refine Decidable.not_not.1 fun hc => ?_
  have q := of_decide_eq_false b15
  rw [hmk, Z6I hc] at q
  exact q rfl
 exact ⟨by rw [Z3o hm, ← hmk], by rw [Z3o hm]; exact H42.pk [0, 1, 2, 3]⟩
def ZV (k : IntKind) (g T n : Nat) (A : List Int) : Ck where
 fp b := b = g
 ok w := A.length = n ∧ w.heap[g]? = some (.cells ⟨A.map (Value.int k)⟩ T (0, 0))
 stay h hb := ⟨h.1, (hb g rfl).trans h.2⟩
 lt h _ hk := hk ▸ Z1v h.2
section
variable {k : IntKind} {g T n : Nat} {A : List Int} {w w0 w' : World} {G : List Ck}
theorem Z12 (h : (ZV k g T n A).ok w) : A.length = n := h.1
theorem ZM (h : (ZV k g T n A).ok w) {i o : Nat} (hi : i < n) (ho : o = i) : w.cell? ⟨g, o, none⟩ = some (.int k (A.getD i 0)) := by
 subst ho
 rw [Z1n h.2]
 simp [List.getD_eq_getElem?_getD, List.getElem?_eq_getElem (show o < A.length by rw [h.1]; exact hi)]
theorem Zdj (h : (ZV k g T n A).ok w) : Z49 w ⟨g, 0, none⟩ (A.map (Value.int k)) := fun j v hj => by
 rw [Addr.add_lit, Z1n h.2]; simpa using hj
theorem Sat.toW (H : Sat w0 G w) (i : Nat) (k : IntKind) (A : List Int) (hi : G[i]? = some (Z0 g T (A.map (Value.int k)))) (hn : A.length = n) : Sat w0 (G.set i (ZV k g T n A)) w :=
 H.set i hi ⟨rfl, rfl, rfl, Nat.le_refl _⟩ (fun _ _ _ => rfl) ⟨hn, H.at i hi⟩ (fun _b hb => .inl hb)
theorem Sat.offW (H : Sat w0 G w) (i : Nat) (hi : G[i]? = some (ZV k g T n A)) : Sat w0 (G.set i (Z0 g T (A.map (Value.int k)))) w :=
 H.set i hi ⟨rfl, rfl, rfl, Nat.le_refl _⟩ (fun _ _ _ => rfl) (H.at i hi).2 (fun _b hb => .inl hb)
end
section
variable {P : Program} {n : Nat} {f : Nat → Value} {w w0 : World} {dst : Option Tmp} {ty : TypeId} {pos : String} {aft : Array Edge} {gd : Option (Nat × Bool)} {K : Act → World → Prop} {Q : Exit → Act → World → Prop} {G : List Ck}
theorem Z2w (k : IntKind) {T TA m : Nat} {A : List Int} {g i : Nat} {x y : Operand} {z : Int} {o : Nat} (hd : dst = none) (H : Sat w0 G w) (j : Nat) (hj : G[j]? = some (ZV k g TA m A)) (hx : ev n f x = .pointer (some ⟨g, o, none⟩)) (hy : ev n f y = .int k z) (hN : P.cellsOf T = 1) (ho : o = i) (hi : i < m)
  (kk : ∀ w', Sat w0 (G.set j (ZV k g TA m (A.set i z))) w' → K (fr n f) w') : WO P ⟨dst, .store T x y, ty, pos, aft, gd⟩ K Q n f w := by
 have h := H.at j hj
 subst ho
 have hil : o < A.length := by rw [h.1]; exact hi
 obtain ⟨w', hr, hb, he, hk⟩ := Z7Z (P := P) (dst := dst) (ty := ty) (pos := pos) (aft := aft) (gd := gd) (vs := [.int k z]) hx hy rfl hN (by simp) h.2 (by simp; omega) (fun v hv => by rw [List.mem_singleton.1 hv]; rfl)
 refine Z8G hd hr (kk w' (H.set j hj he (fun b _ hne => hk b hne) ⟨by simp [h.1], ?_⟩ (fun b hb => .inl hb)))
 have e : Z1m (A.map (Value.int k)) o [Value.int k z] = (A.set o z).map (Value.int k) := by
  rw [List.set_eq_take_append_cons_drop, if_pos hil]
  simp [Z1m]
 rw [← e]; exact hb
theorem Z0u (k : IntKind) {T TA m : Nat} {A B : List Int} {g : Nat} {x y : Operand} {u : Value} (hd : dst = none) (H : Sat w0 G w) (j : Nat) (hj : G[j]? = some (ZV k g TA m A)) (hx : ev n f x = zp g) (hy : ev n f y = u) (hu : u.cells = ⟨B.map (Value.int k)⟩) (hN : P.cellsOf T = m) (hm : 0 < m) (hB : B.length = m)
  (kk : ∀ w', Sat w0 (G.set j (ZV k g TA m B)) w' → K (fr n f) w') : WO P ⟨dst, .store T x y, ty, pos, aft, gd⟩ K Q n f w := by
 have h := H.at j hj
 obtain ⟨w', hr, hb, he, hk⟩ := Z7Z (P := P) (dst := dst) (ty := ty) (pos := pos) (aft := aft) (gd := gd) (vs := B.map (Value.int k)) hx hy hu (by rw [hN]; simp [hB]) (by simp [hB]; omega) h.2 (by simp [hB, h.1]) (fun v hv => by obtain ⟨z, _, rfl⟩ := List.mem_map.1 hv; rfl)
 refine Z8G hd hr (kk w' (H.set j hj he (fun b _ hne => hk b hne) ⟨hB, ?_⟩ (fun b hb => .inl hb)))
 have e : Z1m (A.map (Value.int k)) 0 (B.map (Value.int k)) = B.map (Value.int k) := by simp [Z1m, hB, h.1]
 rw [← e]; exact hb
theorem Z32 {k : IntKind} {T TA m g : Nat} {A : List Int} {x : Operand} (hx : ev n f x = zp g) (hT : Z77 P T = true) (hN : P.cellsOf T = m) (hm : 0 < m) (h : (ZV k g TA m A).ok w) :
  (execOp (ev n f) ⟨dst, .load T x, ty, pos, aft, gd⟩).run P w = .ok (.value (.agg ⟨A.map (Value.int k)⟩)) w :=
 ZX hx hT (by rw [hN]; simp [h.1]) (by simp [h.1]; omega) (Zdj h)
theorem Z4G {v : Value} {s : List UInt8} (h : ListAt Zx 1 w v s) (h0 : 0 < s.length) : ∃ b o c, v = .slice (some ⟨b, o, none⟩) s.length c := by
 obtain ⟨b, o, c, e, _⟩ := SliceOf.some h h0
 exact ⟨b, o, c, e⟩
theorem Z2U {b o c i p m : Nat} {s : List UInt8} (h : ListAt Zx 1 w (.slice (some ⟨b, o, none⟩) m c) s) (hi : i < s.length) (hp : p = o + i) : w.cell? ⟨b, p, none⟩ = some (.int .u8 ((s.getD i 0).toNat : Int)) := by
 obtain ⟨b', o', c', e, _, hr⟩ := SliceOf.some h (by omega)
 simp only [Value.slice.injEq, Option.some.injEq, Addr.mk.injEq] at e
 obtain ⟨⟨rfl, rfl, _⟩, _, _⟩ := e
 have := hr i hi 0 _ rfl
 rw [Addr.add_lit] at this
 rw [hp, show o + i = o + i * 1 + 0 by omega, this, List.getD_eq_getElem?_getD, List.getElem?_eq_getElem hi]; rfl
end
section
variable {α : Type} {enc : α → List Value} {sz : Nat} {w : World} {xs : List α}
theorem ListAt.dropG {a : Option Addr} {n c k : Nat} (h : ListAt enc sz w (.slice a n c) xs) (hk : k ≤ n) : ListAt enc sz w (.slice (if c = k then a else a.map (·.add (k * sz))) (n - k) (c - k)) (xs.drop k) := by
 rcases h with ⟨a', c', e, rfl, hc, ha⟩ | ⟨h0, b', o', c', e, ⟨h1, h2⟩, h⟩
 ·simp only [Value.slice.injEq] at e
  obtain ⟨rfl, rfl, rfl⟩ := e
  obtain rfl : k = 0 := by omega
  refine .inl ⟨_, _, rfl, by simp, by omega, fun q => ?_⟩
  by_cases h0 : c = 0
  ·omega
  ·rw [if_neg h0] at q
   cases a with
   | none => have := ha rfl; omega
   | some ad => cases q
 ·simp only [Value.slice.injEq] at e
  obtain ⟨rfl, rfl, rfl⟩ := e
  have hl : (xs.drop k).length = xs.length - k := List.length_drop
  by_cases hz : k = xs.length
  ·subst hz
   refine .inl ⟨_, c - xs.length, by rw [Nat.sub_self], by simp, by omega, fun q => ?_⟩
   split at q
   ·cases q
   ·cases q
  ·refine .inr ⟨by omega, b', o' + k * sz, c - k, ?_, ⟨by rw [hl]; omega, by omega⟩, fun i hi => ?_⟩
   ·rw [hl, if_neg (by omega), Option.map_some, Addr.add_lit]
   ·rw [List.getElem_drop]
    have := h (k + i) (by rw [hl] at hi; omega)
    rwa [show o' + k * sz + i * sz = o' + (k + i) * sz by rw [Nat.add_mul]; omega]
end
section
variable {P : Program} {n : Nat} {f : Nat → Value} {w : World} {dst : Option Tmp} {ty : TypeId} {pos : String} {aft : Array Edge} {gd : Option (Nat × Bool)}
theorem Z35 {T E : TypeId} {x y : Operand} {a : Option Addr} {len cap sz : Nat} {k : IntKind} {z : Int} {q : Nat} (hT : P.underlying T = some (.slice E)) (hE : (P.info? E).map (·.size) = some sz) (hx : ev n f x = .slice a len cap) (hy : ev n f y = .int k z) (h1 : z = (q : Int)) (h2 : q ≤ len) :
  (execOp (ev n f) ⟨dst, .slice T x (some y) none none, ty, pos, aft, gd⟩).run P w = .ok (.value (.slice (if cap = q then a else a.map (·.add (q * sz))) (len - q) (cap - q))) w := by
 cases hi : P.info? E with
 | none => rw [hi] at hE; cases hE
 | some inf =>
  rw [hi] at hE
  simp only [Option.map_some, Option.some.injEq] at hE
  subst h1 hE
  have : (Instr.slice T (.slice a len cap) (some (.int k (q : Int))) none none).run P w = .ok (.slice (if cap = q then a else a.map (·.add (q * inf.size))) (len - q) (cap - q)) w := by
   simp [Instr.slice, run_underlying hT, Instr.sliceBounds, Instr.sliceBound, asIntOf, h2, Result.andThen, sizeOf, typeInfo, hi]
  simp only [execOp, Instr.sliceAt, Option.map, hx, hy]
  simp [run_underlying hT, this, Result.andThen]
  cases a <;> rfl
end
end Go.Proofs.YtenihpghfdcpkaaGreat
