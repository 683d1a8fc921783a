/- WHAT IS PROVED: contracts and plain laws of ClV, SmA. Conditions: stated with each. -/
import Derived.Test.YtgigjkjdmalmaaaGreatPY05
import Derived.Test.YtgigjkjdmalmaaaGreatPY09
import Derived.Test.YtgigjkjdmalmaaaGreatPY10
import Derived.Test.YtgigjkjdmalmaaaGreatPY23
set_option maxHeartbeats 4000000
set_option maxRecDepth 100000
namespace Go.Proofs.YtgigjkjdmalmaaaGreat
open Go.RowKit
abbrev kClV_0 (p0 : Nat) (p1 : List Z4) : Ck := ZI p0 ZK (Value.int .i64) (ZU p1)
theorem out_at {fr : Int} {m x : OmR} {B : List Ck} {D : List OmR} {i : Nat} (h : ∀ j, j < D.length → Z6g fr m B j (D.getD j om0)) (hx : D[i]? = some x) : Z6g fr m B i x := by
 have q := h i (List.getElem?_eq_some_iff.1 hx).1
 rw [List.getD_eq_getElem?_getD, hx] at q
 exact q
theorem Z93 (w : World) (v : Value) (p : List UInt8) (hp : ListAt ZH 1 w v p) (hx : p.length ≤ 1000000) :
  Calls Tryz.prog 42 #[(v)] w fun e w' => ∃ u, e = .returned u ∧ (Zc 5 1 u p.length (p.flatMap ZH)).ok w' ∧ Upd [] w w' ∧ ∀ b, (Zc 5 1 u p.length (p.flatMap ZH)).fp b → w.heap.size ≤ b := by
 have H := Sat.start0 w
 refine Zg Tryz.func42 rfl 5 rfl (Nat.le_of_ble_eq_true rfl) ?_
 apply zsl
 refine wv 2 (.slice none 0 0) ?_
 apply Z0N
 refine wv 3 (v) ?_
 refine zwd fun Kq kq => ?_
 refine Z1f (T := 38) (e := 5) (size := 1) (bytes := 1) rfl H (by kernel_rfl) Z0u Z1b (ListAt.now H 0 rfl hp) rfl rfl (by omega) (by omega) ?_
 intro v2 w3 H4
 obtain ⟨a5, c6, rfl⟩ := Ze (H4.at 1 rfl)
 refine kq _ _ ?_
 clear kq Kq
 refine wv 2 (.slice a5 p.length c6) ?_
 apply znt
 apply Zz
 refine ze1 (.slice a5 p.length c6) ?_
 exact ⟨_, rfl, H4.at 1 rfl, H4.upd 0 rfl [] (fun _ h => h.elim), H4.fresh 0 rfl (fun _ h => h) 1 rfl rfl⟩
theorem Z5K (w : World) (pa : Option Addr) (pc : Nat) (p : List UInt8) (hp : ListAt ZH 1 w (.slice pa p.length pc) p) (n : Nat) (hn : n ≤ 1000000) :
  Calls Tryz.prog 20 #[(.slice pa p.length pc), (.int .i64 ((n : Int)))] w fun e w' => ∃ u, e = .returned u ∧ (Zc 5 1 u (p.take n).length ((p.take n).flatMap ZH)).ok w' ∧ Upd [] w w' ∧ ∀ b, (Zc 5 1 u (p.take n).length ((p.take n).flatMap ZH)).fp b → w.heap.size ≤ b := by
 have hcap := ListAt.cap hp
 have H := Sat.start0 w
 refine Zg Tryz.func20 rfl 12 rfl (Nat.le_of_ble_eq_true rfl) ?_
 apply zsl
 refine wv 4 (.slice none 0 0) ?_
 apply Z0N
 refine wv 5 (.slice pa p.length pc) ?_
 refine wv 6 (.slice pa p.length pc) ?_
 refine wv 7 (.int .i64 ((p.length : Int))) ?_
 refine wv 8 (.int .i64 ((n : Int))) ?_
 refine wv 9 (.int .i64 (((min p.length n : Nat) : Int))) ?_ (hr := Zax (k := .i64) (a := (p.length : Int)) (b := (n : Int)) (z := ((min p.length n : Nat) : Int)) rfl rfl (by omega))
 refine wv 10 (.slice pa (min p.length n) pc) ?_ (hr := Z2k (E := 5) (q := (min p.length n)) (by kernel_rfl) (by kernel_rfl) rfl rfl (by omega) (by omega))
 refine zwd fun Kq kq => ?_
 refine zdc 11 (Z93 w (.slice pa (min p.length n) pc) (p.take (min p.length n)) (ListAt.take (ListAt.now H 0 rfl hp) (by omega)) (by simp only [List.length_take]; omega)) ?_
 rintro _ w2 ⟨u3, rfl, k4, p5, q6⟩
 have H7 := H.addU p5 k4 q6
 obtain ⟨a8, c9, rfl⟩ := Ze (H7.at 1 rfl)
 refine ⟨_, rfl, ?_⟩
 refine kq _ _ ?_
 clear kq Kq
 refine wv 4 (.slice a8 ((p.take (min p.length n)).length) c9) ?_
 apply znt
 apply Zz
 refine ze1 (.slice a8 ((p.take (min p.length n)).length) c9) ?_
 have ht : p.take (min p.length n) = p.take n := by rw [List.take_eq_take_iff]; omega
 exact ⟨_, rfl, (by rw [← ht]; exact H7.at 1 rfl), H7.upd 0 rfl [] (fun _ h => h.elim), (by rw [← ht]; exact H7.fresh 0 rfl (fun _ h => h) 1 rfl rfl)⟩
theorem Z7L (w : World) :
  Calls Tryz.prog 19 #[] w fun e w' => e = .returned (.bool true) ∧ Upd [] w w' := by
 have H := Sat.start0 w
 refine Zg Tryz.func19 rfl 48 rfl (Nat.le_of_ble_eq_true rfl) ?_
 apply zsl
 refine wv 0 (.bool false) ?_
 apply Z0N
 refine zwd fun Kq kq => ?_
 refine zdc 6 (Z8a w) ?_
 rintro _ w2 ⟨b3, m4, rfl, k5, p6, q7⟩
 have H8 := H.addU p6 k5 q7
 have H9 := H8.open 1 rfl
 refine ⟨_, rfl, ?_⟩
 refine kq _ _ ?_
 clear kq Kq
 refine wv 1 (pt b3 0) ?_
 apply znt
 apply Zf
 apply zsl
 refine wv 7 (pt b3 0) ?_
 refine wv 8 (.bool false) ?_
 apply znt
 refine Z0y rfl ?_
 apply ZF
 apply ztn
 apply zsl
 refine wv 10 (.agg ⟨([(.int .i64 (1)), (.int .i64 (1))] : List Value)⟩) ?_
 refine wv 11 (pt b3 0) ?_
 refine zwd fun Kq kq => ?_
 refine zdc 12 (Z6t w2 1 1 (0 : Int) b3 (by kernel_rfl) (by omega)) ?_
 rintro _ w11 ⟨c12, rfl, k13, p14, q15⟩
 have H16 := H9.addU p14 k13 q15
 refine ⟨_, rfl, ?_⟩
 refine kq _ _ ?_
 clear kq Kq
 refine wv 9 (.tuple #[(pt c12 0), (.int .i64 (0))]) ?_
 refine wv 13 (pt c12 0) ?_
 refine wv 14 (.int .i64 (0)) ?_
 refine wv 2 (pt c12 0) ?_
 refine wv 3 (.int .i64 (0)) ?_
 apply znt
 apply Zf
 apply zsl
 refine wv 15 (.int .i64 (0)) ?_
 refine wv 16 (.bool false) ?_
 refine wv 17 (.bool false) ?_
 refine wy 2 17 false 18 (pt c12 0) ?_
 refine wy 2 17 false 19 (.bool false) ?_
 refine wv 20 (.bool false) ?_
 apply znt
 refine Z0y rfl ?_
 apply ZF
 apply ztn
 apply Zf
 have H18 := H16.addNil 119 79
 apply Zt
 refine wv 22 (pt c12 0) ?_
 refine zwd fun Kq kq => ?_
 refine Z3U 5 1 1 (.int .u8 (0)) [(0, (.int .u8 (97)))] ([(.int .u8 (97))] : List Value) H18 ?_
 intro b20 w21 H22
 have H23 := H22.ct 5 rfl (Zc 5 1 (.slice (some ⟨b20, 0, none⟩) 1 1) 1 ([97].flatMap ZH)) (by rw [(show (([(.int .u8 (97))] : List Value) : List Value) = ([97] : List UInt8).flatMap ZH by kernel_rfl)])
 refine kq _ _ ?_
 clear kq Kq
 refine zwd fun Kq kq => ?_
 refine Z1n (e := 5) (s := [97]) rfl H23 5 rfl (by kernel_rfl) (by kernel_rfl) rfl ?_
 intro w25 H26
 refine kq _ _ ?_
 clear kq Kq
 refine wv 25 (.agg ⟨(hc Zx)⟩) ?_
 refine zwd fun Kq kq => ?_
 refine zdc 26 (Z3B w25 c12 b3 m4 0 none 1 1 0 ([] : List Zq) ([]) (some ⟨b20, 0, none⟩) 1 ([97]) (H26.fn [3, 4, 1, 2, 5]) Zx (by decide) (by decide) (by decide) (fun _ e_ => by cases e_; rfl) (by omega) (by omega)) ?_
 rintro _ w28 ⟨g29, c30, a31, c32, m33, m34, m35, m36, a37, c38, D39, B40, rfl, n41, o42, T43⟩
 have H44 := H26.tl [Z3 c12 112 ([(.int .i64 (1)), (.int .i64 (1)), (.int .i64 (0)), (pt b3 0), (.slice (some ⟨g29, 0, none⟩) ((([] : List Zq) ++ [(⟨(⟨0, ((([] : List Zq).length : Int) + 1), Z8 (ofT 0 ((([] : List Zq).length : Int) + 1) Zx ([97])), ([97]).length, 1000 + 0, Z9 (Zd ([]) (⟨1000 + 0, Z1 (⟨0, ((([] : List Zq).length : Int) + 1), Z8 (ofT 0 ((([] : List Zq).length : Int) + 1) Zx ([97])), ([97]).length, 0, 0⟩ : Z0)⟩ : Z4)) (⟨1000 + 0, Z1 (⟨0, ((([] : List Zq).length : Int) + 1), Z8 (ofT 0 ((([] : List Zq).length : Int) + 1) Zx ([97])), ([97]).length, 0, 0⟩ : Z0)⟩ : Z4)⟩ : Z0), a31, c32, ([97]), Zx, m33, none, m34, m35, false, 0, m36, false, []⟩ : Zq)]).length) c30)] : List Value), Zc 119 79 (.slice (some ⟨g29, 0, none⟩) ((([] : List Zq) ++ [(⟨(⟨0, ((([] : List Zq).length : Int) + 1), Z8 (ofT 0 ((([] : List Zq).length : Int) + 1) Zx ([97])), ([97]).length, 1000 + 0, Z9 (Zd ([]) (⟨1000 + 0, Z1 (⟨0, ((([] : List Zq).length : Int) + 1), Z8 (ofT 0 ((([] : List Zq).length : Int) + 1) Zx ([97])), ([97]).length, 0, 0⟩ : Z0)⟩ : Z4)) (⟨1000 + 0, Z1 (⟨0, ((([] : List Zq).length : Int) + 1), Z8 (ofT 0 ((([] : List Zq).length : Int) + 1) Zx ([97])), ([97]).length, 0, 0⟩ : Z0)⟩ : Z4)⟩ : Z0), a31, c32, ([97]), Zx, m33, none, m34, m35, false, 0, m36, false, []⟩ : Zq)]).length) c30) ((([] : List Zq) ++ [(⟨(⟨0, ((([] : List Zq).length : Int) + 1), Z8 (ofT 0 ((([] : List Zq).length : Int) + 1) Zx ([97])), ([97]).length, 1000 + 0, Z9 (Zd ([]) (⟨1000 + 0, Z1 (⟨0, ((([] : List Zq).length : Int) + 1), Z8 (ofT 0 ((([] : List Zq).length : Int) + 1) Zx ([97])), ([97]).length, 0, 0⟩ : Z0)⟩ : Z4)) (⟨1000 + 0, Z1 (⟨0, ((([] : List Zq).length : Int) + 1), Z8 (ofT 0 ((([] : List Zq).length : Int) + 1) Zx ([97])), ([97]).length, 0, 0⟩ : Z0)⟩ : Z4)⟩ : Z0), a31, c32, ([97]), Zx, m33, none, m34, m35, false, 0, m36, false, []⟩ : Zq)]).length) ((([] : List Zq) ++ [(⟨(⟨0, ((([] : List Zq).length : Int) + 1), Z8 (ofT 0 ((([] : List Zq).length : Int) + 1) Zx ([97])), ([97]).length, 1000 + 0, Z9 (Zd ([]) (⟨1000 + 0, Z1 (⟨0, ((([] : List Zq).length : Int) + 1), Z8 (ofT 0 ((([] : List Zq).length : Int) + 1) Zx ([97])), ([97]).length, 0, 0⟩ : Z0)⟩ : Z4)) (⟨1000 + 0, Z1 (⟨0, ((([] : List Zq).length : Int) + 1), Z8 (ofT 0 ((([] : List Zq).length : Int) + 1) Zx ([97])), ([97]).length, 0, 0⟩ : Z0)⟩ : Z4)⟩ : Z0), a31, c32, ([97]), Zx, m33, none, m34, m35, false, 0, m36, false, []⟩ : Zq)]).flatMap Zh), Z3 b3 108 ([(.map (some m4))] : List Value), (kClV_0 m4 (Zd ([]) (⟨1000 + 0, Z1 (⟨0, ((([] : List Zq).length : Int) + 1), Z8 (ofT 0 ((([] : List Zq).length : Int) + 1) Zx ([97])), ([97]).length, 0, 0⟩ : Z0)⟩ : Z4))), ZX (.slice (some ⟨b20, 0, none⟩) 1 1) ([97]), ZI m33 (Value.int .i64) Z0h [], ZI m34 (Value.int .i64) Value.bool [], ZI m35 (Value.int .i64) rcV [], ZI m36 (Value.int .i64) ZD [], Zc 5 1 (.slice a31 (([97]).length) c32) (([97]).length) (([97]).flatMap ZH), Zc 82 295 (.slice a37 D39.length c38) D39.length (D39.flatMap Z0d), Z0j B40] [3, 4, 1, 2, 5] [0] T43 [12, 2, 3, 0, 1, 4, 5, 6, 7, 8, 9, 10, 11]
 refine ⟨_, rfl, ?_⟩
 refine kq _ _ ?_
 clear kq Kq
 refine wv 21 (.tuple #[(.slice a37 D39.length c38), (.int .i64 (0))]) ?_
 refine wv 27 (.slice a37 D39.length c38) ?_
 refine wv 28 (.int .i64 (0)) ?_
 refine wv 4 (.slice a37 D39.length c38) ?_
 refine wv 5 (.int .i64 (0)) ?_
 apply Z0N
 refine wv 29 (.int .i64 (0)) ?_
 refine wv 30 (.bool true) ?_
 refine wv 31 (.bool true) ?_
 refine wy 2 31 true 32 (.slice a37 D39.length c38) ?_
 refine wy 2 31 true 33 (.int .i64 ((D39.length : Int))) ?_
 refine wy 2 31 true 34 (.bool (decide ((D39.length : Int) = 4))) ?_
 refine wv 35 (.bool (decide ((D39.length : Int) = 4))) ?_
 refine wv 36 (.bool (decide ((D39.length : Int) = 4))) ?_
 have b45 : (decide ((D39.length : Int) = 4)) = true := by exact decide_eq_true (by omega)
 refine ZP 36 (.bool true) (congrArg Value.bool b45) ?_
 have g46 := of_decide_eq_true b45
 refine wy 7 36 true 37 (.slice a37 D39.length c38) ?_
 obtain ⟨g47, c48, e49⟩ := Z18 (H44.at 11 rfl) (by omega)
 obtain ⟨x50, h51⟩ := Z4X (show 0 < D39.length by omega)
 refine wy 7 36 true 38 (.pointer (some ⟨g47, 0 + ((0 : Int)).toNat * 295, none⟩)) ?_ (hr := Z1R (E := 82) (by kernel_rfl) (by kernel_rfl) (Nat.le_of_ble_eq_true rfl) rfl e49 rfl (by omega) (by omega))
 refine wy 7 36 true 39 (.pointer (some ⟨g47, 0 + ((0 : Int)).toNat * 295, none⟩)) ?_
 refine wy 7 36 true 40 (.int .i64 (x50.k)) ?_ (hr := Zi rfl (by kernel_rfl) (ZS (H44.at 11 rfl) e49 Z4e h51 0 rfl (show 0 + ((0 : Int)).toNat * 295 = 0 * 295 + 0 by omega) (by kernel_rfl)))
 refine wy 7 36 true 41 (.bool (decide (x50.k = 1))) ?_
 refine wv 42 (.bool (decide (x50.k = 1))) ?_
 refine wv 43 (.bool (decide (x50.k = 1))) ?_
 have b52 : (decide (x50.k = 1)) = true := by exact decide_eq_true (out_at o42 h51).k
 refine ZP 43 (.bool true) (congrArg Value.bool b52) ?_
 have g53 := of_decide_eq_true b52
 refine wy 14 43 true 44 (pt c12 0) ?_
 refine Z0B (Z0k 14 43 true rfl (by kernel_rfl) rfl (by kernel_rfl)) (fun Kq kq => ?_)
 refine zdq 45 (Z23 w28 c12 b3 c30 (some ⟨g29, 0, none⟩) 1 1 0 ([] ++ [(⟨(⟨0, ((([] : List Zq).length : Int) + 1), Z8 (ofT 0 ((([] : List Zq).length : Int) + 1) Zx ([97])), ([97]).length, 1000 + 0, Z9 (Zd ([]) (⟨1000 + 0, Z1 (⟨0, ((([] : List Zq).length : Int) + 1), Z8 (ofT 0 ((([] : List Zq).length : Int) + 1) Zx ([97])), ([97]).length, 0, 0⟩ : Z0)⟩ : Z4)) (⟨1000 + 0, Z1 (⟨0, ((([] : List Zq).length : Int) + 1), Z8 (ofT 0 ((([] : List Zq).length : Int) + 1) Zx ([97])), ([97]).length, 0, 0⟩ : Z0)⟩ : Z4)⟩ : Z0), a31, c32, ([97]), Zx, m33, none, m34, m35, false, 0, m36, false, []⟩ : Zq)]) (H44.at 3 rfl)) H44 ?_
 intro w55 H56
 refine kq _ _ ?_
 clear kq Kq
 refine wy 14 43 true 46 (.bool true) ?_
 refine wv 47 (.bool true) ?_
 refine wv 0 (.bool true) ?_
 apply znt
 apply Zz
 refine ze1 (.bool true) ?_
 exact ⟨rfl, H56.upd 0 rfl [] (fun _ h => h.elim)⟩
theorem Z1c {α : Type} {l : List α} {i : Nat} {d : α} (h : i < l.length) : l.getD i d ∈ l := by
 rw [List.getD_eq_getElem?_getD, List.getElem?_eq_getElem h]; exact List.getElem_mem h
theorem Z3n {P : Program} {F : FuncId} {vs : Array Value} {w : World} {T sz n : Nat} {xs : List Value} {K : Value → World → Prop} (h : Calls P F vs w fun e w' => ∃ u, e = .returned u ∧ (Zc T sz u n xs).ok w' ∧ Upd [] w w' ∧ K u w') : Calls P F vs w fun e w' => ∃ (a : Option Addr) (c : Nat), e = .returned (.slice a n c) ∧ Upd [] w w' :=
 h.mono fun e w' ⟨u, he, hok, hu, _⟩ => by
  obtain ⟨a, c, rfl⟩ := Ze hok
  exact ⟨a, c, he, hu⟩
theorem ZbP (w : World) (v : Value) (S : List Zk) (hS : ListAt ZV 38 w v S) (hx : S.length ≤ 1000000) :
  Calls Tryz.prog 87 #[(v)] w fun e w' => ∃ u, e = .returned u ∧ (Zc 49 38 u S.length (S.flatMap ZV)).ok w' ∧ Upd [] w w' ∧ ∀ b, (Zc 49 38 u S.length (S.flatMap ZV)).fp b → w.heap.size ≤ b := by
 have H := Sat.start0 w
 refine Zg Tryz.func87 rfl 5 rfl (Nat.le_of_ble_eq_true rfl) ?_
 apply zsl
 refine wv 2 (.slice none 0 0) ?_
 apply Z0N
 refine wv 3 (v) ?_
 refine zwd fun Kq kq => ?_
 refine Z1f (T := 55) (e := 49) (size := 38) (bytes := 80) rfl H (by kernel_rfl) Z0W Z2m (ListAt.now H 0 rfl hS) rfl rfl (by omega) (by omega) ?_
 intro v2 w3 H4
 obtain ⟨a5, c6, rfl⟩ := Ze (H4.at 1 rfl)
 refine kq _ _ ?_
 clear kq Kq
 refine wv 2 (.slice a5 S.length c6) ?_
 apply znt
 apply Zz
 refine ze1 (.slice a5 S.length c6) ?_
 exact ⟨_, rfl, H4.at 1 rfl, H4.upd 0 rfl [] (fun _ h => h.elim), H4.fresh 0 rfl (fun _ h => h) 1 rfl rfl⟩
theorem ZbS (w : World) (sa : Option Addr) (sc : Nat) (S : List Zk) (hS : ListAt ZV 38 w (.slice sa S.length sc) S) (n : Nat) (hn : n ≤ 1000000) :
  Calls Tryz.prog 66 #[(.slice sa S.length sc), (.int .i64 ((n : Int)))] w fun e w' => ∃ u, e = .returned u ∧ (Zc 49 38 u (S.take n).length ((S.take n).flatMap ZV)).ok w' ∧ Upd [] w w' ∧ ∀ b, (Zc 49 38 u (S.take n).length ((S.take n).flatMap ZV)).fp b → w.heap.size ≤ b := by
 have hcap := ListAt.cap hS
 have H := Sat.start0 w
 refine Zg Tryz.func66 rfl 12 rfl (Nat.le_of_ble_eq_true rfl) ?_
 apply zsl
 refine wv 4 (.slice none 0 0) ?_
 apply Z0N
 refine wv 5 (.slice sa S.length sc) ?_
 refine wv 6 (.slice sa S.length sc) ?_
 refine wv 7 (.int .i64 ((S.length : Int))) ?_
 refine wv 8 (.int .i64 ((n : Int))) ?_
 refine wv 9 (.int .i64 (((min S.length n : Nat) : Int))) ?_ (hr := Zax (k := .i64) (a := (S.length : Int)) (b := (n : Int)) (z := ((min S.length n : Nat) : Int)) rfl rfl (by omega))
 refine wv 10 (.slice sa (min S.length n) sc) ?_ (hr := Z2k (E := 49) (q := (min S.length n)) (by kernel_rfl) (by kernel_rfl) rfl rfl (by omega) (by omega))
 refine zwd fun Kq kq => ?_
 refine zdc 11 (ZbP w (.slice sa (min S.length n) sc) (S.take (min S.length n)) (ListAt.take (ListAt.now H 0 rfl hS) (by omega)) (by simp only [List.length_take]; omega)) ?_
 rintro _ w2 ⟨u3, rfl, k4, p5, q6⟩
 have H7 := H.addU p5 k4 q6
 obtain ⟨a8, c9, rfl⟩ := Ze (H7.at 1 rfl)
 refine ⟨_, rfl, ?_⟩
 refine kq _ _ ?_
 clear kq Kq
 refine wv 4 (.slice a8 ((S.take (min S.length n)).length) c9) ?_
 apply znt
 apply Zz
 refine ze1 (.slice a8 ((S.take (min S.length n)).length) c9) ?_
 have ht : S.take (min S.length n) = S.take n := by rw [List.take_eq_take_iff]; omega
 exact ⟨_, rfl, (by rw [← ht]; exact H7.at 1 rfl), H7.upd 0 rfl [] (fun _ h => h.elim), (by rw [← ht]; exact H7.fresh 0 rfl (fun _ h => h) 1 rfl rfl)⟩
theorem ZbQ (w : World) (v : Value) (S : List VtD) (hS : ListAt Z2n 38 w v S) (hx : S.length ≤ 1000000) :
  Calls Tryz.prog 68 #[(v)] w fun e w' => ∃ u, e = .returned u ∧ (Zc 71 38 u S.length (S.flatMap Z2n)).ok w' ∧ Upd [] w w' ∧ ∀ b, (Zc 71 38 u S.length (S.flatMap Z2n)).fp b → w.heap.size ≤ b := by
 have H := Sat.start0 w
 refine Zg Tryz.func68 rfl 5 rfl (Nat.le_of_ble_eq_true rfl) ?_
 apply zsl
 refine wv 2 (.slice none 0 0) ?_
 apply Z0N
 refine wv 3 (v) ?_
 refine zwd fun Kq kq => ?_
 refine Z1f (T := 78) (e := 71) (size := 38) (bytes := 80) rfl H (by kernel_rfl) Z9i Z9j (ListAt.now H 0 rfl hS) rfl rfl (by omega) (by omega) ?_
 intro v2 w3 H4
 obtain ⟨a5, c6, rfl⟩ := Ze (H4.at 1 rfl)
 refine kq _ _ ?_
 clear kq Kq
 refine wv 2 (.slice a5 S.length c6) ?_
 apply znt
 apply Zz
 refine ze1 (.slice a5 S.length c6) ?_
 exact ⟨_, rfl, H4.at 1 rfl, H4.upd 0 rfl [] (fun _ h => h.elim), H4.fresh 0 rfl (fun _ h => h) 1 rfl rfl⟩
theorem ZbT (w : World) (sa : Option Addr) (sc : Nat) (S : List VtD) (hS : ListAt Z2n 38 w (.slice sa S.length sc) S) (n : Nat) (hn : n ≤ 1000000) :
  Calls Tryz.prog 46 #[(.slice sa S.length sc), (.int .i64 ((n : Int)))] w fun e w' => ∃ u, e = .returned u ∧ (Zc 71 38 u (S.take n).length ((S.take n).flatMap Z2n)).ok w' ∧ Upd [] w w' ∧ ∀ b, (Zc 71 38 u (S.take n).length ((S.take n).flatMap Z2n)).fp b → w.heap.size ≤ b := by
 have hcap := ListAt.cap hS
 have H := Sat.start0 w
 refine Zg Tryz.func46 rfl 12 rfl (Nat.le_of_ble_eq_true rfl) ?_
 apply zsl
 refine wv 4 (.slice none 0 0) ?_
 apply Z0N
 refine wv 5 (.slice sa S.length sc) ?_
 refine wv 6 (.slice sa S.length sc) ?_
 refine wv 7 (.int .i64 ((S.length : Int))) ?_
 refine wv 8 (.int .i64 ((n : Int))) ?_
 refine wv 9 (.int .i64 (((min S.length n : Nat) : Int))) ?_ (hr := Zax (k := .i64) (a := (S.length : Int)) (b := (n : Int)) (z := ((min S.length n : Nat) : Int)) rfl rfl (by omega))
 refine wv 10 (.slice sa (min S.length n) sc) ?_ (hr := Z2k (E := 71) (q := (min S.length n)) (by kernel_rfl) (by kernel_rfl) rfl rfl (by omega) (by omega))
 refine zwd fun Kq kq => ?_
 refine zdc 11 (ZbQ w (.slice sa (min S.length n) sc) (S.take (min S.length n)) (ListAt.take (ListAt.now H 0 rfl hS) (by omega)) (by simp only [List.length_take]; omega)) ?_
 rintro _ w2 ⟨u3, rfl, k4, p5, q6⟩
 have H7 := H.addU p5 k4 q6
 obtain ⟨a8, c9, rfl⟩ := Ze (H7.at 1 rfl)
 refine ⟨_, rfl, ?_⟩
 refine kq _ _ ?_
 clear kq Kq
 refine wv 4 (.slice a8 ((S.take (min S.length n)).length) c9) ?_
 apply znt
 apply Zz
 refine ze1 (.slice a8 ((S.take (min S.length n)).length) c9) ?_
 have ht : S.take (min S.length n) = S.take n := by rw [List.take_eq_take_iff]; omega
 exact ⟨_, rfl, (by rw [← ht]; exact H7.at 1 rfl), H7.upd 0 rfl [] (fun _ h => h.elim), (by rw [← ht]; exact H7.fresh 0 rfl (fun _ h => h) 1 rfl rfl)⟩
theorem ZbO (w : World) (v : Value) (S : List Z2H) (hS : ListAt Z2T 4 w v S) (hx : S.length ≤ 1000000) :
  Calls Tryz.prog 88 #[(v)] w fun e w' => ∃ u, e = .returned u ∧ (Zc 77 4 u S.length (S.flatMap Z2T)).ok w' ∧ Upd [] w w' ∧ ∀ b, (Zc 77 4 u S.length (S.flatMap Z2T)).fp b → w.heap.size ≤ b := by
 have H := Sat.start0 w
 refine Zg Tryz.func88 rfl 5 rfl (Nat.le_of_ble_eq_true rfl) ?_
 apply zsl
 refine wv 2 (.slice none 0 0) ?_
 apply Z0N
 refine wv 3 (v) ?_
 refine zwd fun Kq kq => ?_
 refine Z1f (T := 164) (e := 77) (size := 4) (bytes := 32) rfl H (by kernel_rfl) Z9a Z9b (ListAt.now H 0 rfl hS) rfl rfl (by omega) (by omega) ?_
 intro v2 w3 H4
 obtain ⟨a5, c6, rfl⟩ := Ze (H4.at 1 rfl)
 refine kq _ _ ?_
 clear kq Kq
 refine wv 2 (.slice a5 S.length c6) ?_
 apply znt
 apply Zz
 refine ze1 (.slice a5 S.length c6) ?_
 exact ⟨_, rfl, H4.at 1 rfl, H4.upd 0 rfl [] (fun _ h => h.elim), H4.fresh 0 rfl (fun _ h => h) 1 rfl rfl⟩
theorem ZbR (w : World) (sa : Option Addr) (sc : Nat) (S : List Z2H) (hS : ListAt Z2T 4 w (.slice sa S.length sc) S) (n : Nat) (hn : n ≤ 1000000) :
  Calls Tryz.prog 67 #[(.slice sa S.length sc), (.int .i64 ((n : Int)))] w fun e w' => ∃ u, e = .returned u ∧ (Zc 77 4 u (S.take n).length ((S.take n).flatMap Z2T)).ok w' ∧ Upd [] w w' ∧ ∀ b, (Zc 77 4 u (S.take n).length ((S.take n).flatMap Z2T)).fp b → w.heap.size ≤ b := by
 have hcap := ListAt.cap hS
 have H := Sat.start0 w
 refine Zg Tryz.func67 rfl 12 rfl (Nat.le_of_ble_eq_true rfl) ?_
 apply zsl
 refine wv 4 (.slice none 0 0) ?_
 apply Z0N
 refine wv 5 (.slice sa S.length sc) ?_
 refine wv 6 (.slice sa S.length sc) ?_
 refine wv 7 (.int .i64 ((S.length : Int))) ?_
 refine wv 8 (.int .i64 ((n : Int))) ?_
 refine wv 9 (.int .i64 (((min S.length n : Nat) : Int))) ?_ (hr := Zax (k := .i64) (a := (S.length : Int)) (b := (n : Int)) (z := ((min S.length n : Nat) : Int)) rfl rfl (by omega))
 refine wv 10 (.slice sa (min S.length n) sc) ?_ (hr := Z2k (E := 77) (q := (min S.length n)) (by kernel_rfl) (by kernel_rfl) rfl rfl (by omega) (by omega))
 refine zwd fun Kq kq => ?_
 refine zdc 11 (ZbO w (.slice sa (min S.length n) sc) (S.take (min S.length n)) (ListAt.take (ListAt.now H 0 rfl hS) (by omega)) (by simp only [List.length_take]; omega)) ?_
 rintro _ w2 ⟨u3, rfl, k4, p5, q6⟩
 have H7 := H.addU p5 k4 q6
 obtain ⟨a8, c9, rfl⟩ := Ze (H7.at 1 rfl)
 refine ⟨_, rfl, ?_⟩
 refine kq _ _ ?_
 clear kq Kq
 refine wv 4 (.slice a8 ((S.take (min S.length n)).length) c9) ?_
 apply znt
 apply Zz
 refine ze1 (.slice a8 ((S.take (min S.length n)).length) c9) ?_
 have ht : S.take (min S.length n) = S.take n := by rw [List.take_eq_take_iff]; omega
 exact ⟨_, rfl, (by rw [← ht]; exact H7.at 1 rfl), H7.upd 0 rfl [] (fun _ h => h.elim), (by rw [← ht]; exact H7.fresh 0 rfl (fun _ h => h) 1 rfl rfl)⟩
end Go.Proofs.YtgigjkjdmalmaaaGreat
