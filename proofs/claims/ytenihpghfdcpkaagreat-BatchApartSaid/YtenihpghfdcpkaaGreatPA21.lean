/- WHAT IS PROVED: contracts and plain laws of EnA, CloneS, Copy12, CloneBt, CloneD, MkD12, UniM, LaidP. Conditions: stated with each. -/
import Derived.Shelf.SlicesE.Clone
import Derived.Test.YtenihpghfdcpkaaGreatPA03
import Derived.Test.YtenihpghfdcpkaaGreatPA04
import Derived.Test.YtenihpghfdcpkaaGreatPA05
import Derived.Test.YtenihpghfdcpkaaGreatPA07
import Derived.Test.YtenihpghfdcpkaaGreatPA10
import Derived.Test.YtenihpghfdcpkaaGreatPA11
import Derived.Test.YtenihpghfdcpkaaGreatPA16
import Derived.Test.YtenihpghfdcpkaaGreatPA17
import Derived.Test.YtenihpghfdcpkaaGreatPA18
import Derived.Test.YtenihpghfdcpkaaGreatPA20
set_option maxHeartbeats 4000000
set_option maxRecDepth 100000
namespace Go.Proofs.YtenihpghfdcpkaaGreat
open Go.RowKit
abbrev Zf2 (p0 : Z1H) : List Value := ([(.int .i64 p0.cl), (.int .i64 p0.sq)] : List Value) ++ hc p0.h ++ ([(.int .u64 p0.t)] : List Value)
abbrev ZeW (p0 : Int) (p1 : Int) : List Value := ([(.int .i64 p0), (.int .i64 p1)] : List Value)
theorem Z6b (w : World) (b1 b2 : Nat) (T1 T2 : TypeId) (x y : Hash) (h1 : w.heap[b1]? = some (.cells ⟨hc x⟩ T1 (0, 0))) (h2 : w.heap[b2]? = some (.cells ⟨hc y⟩ T2 (0, 0))) :
  Calls Tryz.prog 127 #[(.slice (some ⟨b1, 0, none⟩) 32 32), (.slice (some ⟨b2, 0, none⟩) 32 32)] w fun e w' => e = .returned (.int .i64 (Extern.BytealgCompare.cmp ⟨x.l.toArray⟩ ⟨y.l.toArray⟩)) ∧ Upd [] w w' := by
 have H := Sat.start0 w
 refine Z8 Tryz.func127 rfl 8 rfl kn ?_
 refine zsl <| wv 4 (vi 0) <| Z0y <| wv 5 (.slice (some ⟨b1, 0, none⟩) 32 32) <| wv 6 (.slice (some ⟨b2, 0, none⟩) 32 32) <| wv 7 (vi (Extern.BytealgCompare.cmp ⟨x.l.toArray⟩ ⟨y.l.toArray⟩)) ?_ (hr := Zeg kr (Zad x y (H.roCells 0 rfl h1 (fun h => h)) (H.roCells 0 rfl h2 (fun h => h))))
 refine wv 4 (vi (Extern.BytealgCompare.cmp ⟨x.l.toArray⟩ ⟨y.l.toArray⟩)) <| znt <| Zq <| ze1 (vi (Extern.BytealgCompare.cmp ⟨x.l.toArray⟩ ⟨y.l.toArray⟩)) ?_
 exact ⟨rfl, H.upd 0 rfl [] ne⟩
theorem Z9M (w : World) (x y : Hash) :
  Calls Tryz.prog 100 #[(.agg ⟨(hc x)⟩), (.agg ⟨(hc y)⟩)] w fun e w' => e = .returned (.bool (Zba x y)) ∧ Upd [] w w' := by
 have H := Sat.start0 w
 refine Z8 Tryz.func100 rfl 9 rfl kn ?_
 refine zsl <| zy <| zdb (hc x) H fun b2 w3 H4 => ?_
 refine kk <| zy <| zdb (hc y) H4 fun b6 w7 H8 => ?_
 refine kk <| wv 4 (.bool false) <| znt <| Z5 <| zqs H8 ?_
 refine qv 5 (.slice (some ⟨b2, 0, none⟩) 32 32) <| qv 6 (.slice (some ⟨b6, 0, none⟩) 32 32) <| Z2h (Zb rfl) (d := 7) (v := (vi (Extern.BytealgCompare.cmp ⟨x.l.toArray⟩ ⟨y.l.toArray⟩))) rfl (fun _ _ => by kernel_rfl) (fun w' H' => (Z6b w' b2 b6 _ _ x y (H'.at 1 rfl) (H'.at 2 rfl)).mono fun _ _ h => ⟨h.1, H'.keepU h.2⟩) ?_
 refine qv 8 (.bool (decide ((Extern.BytealgCompare.cmp ⟨x.l.toArray⟩ ⟨y.l.toArray⟩) < 0))) <| qv 4 (.bool (decide ((Extern.BytealgCompare.cmp ⟨x.l.toArray⟩ ⟨y.l.toArray⟩) < 0))) <| Z17 fun w9 H10 => ?_
 refine ztn <| Zq <| ze1 (.bool (decide ((Extern.BytealgCompare.cmp ⟨x.l.toArray⟩ ⟨y.l.toArray⟩) < 0))) ?_
 exact ⟨rfl, H10.upd 0 rfl [] ne⟩
theorem Z8F (w : World) (x y : Z1H) :
  Calls Tryz.prog 58 #[(.agg ⟨(([(.int .i64 (x.cl)), (.int .i64 (x.sq))] : List Value) ++ hc x.h ++ ([(.int .u64 (x.t))] : List Value))⟩), (.agg ⟨(([(.int .i64 (y.cl)), (.int .i64 (y.sq))] : List Value) ++ hc y.h ++ ([(.int .u64 (y.t))] : List Value))⟩)] w fun e w' => e = .returned (.bool (Z3t x y)) ∧ Upd [] w w' := by
 have H := Sat.start0 w
 refine Z8 Tryz.func58 rfl 24 rfl kn ?_
 refine zsl <| zy <| zdb (Zf2 x) H fun b2 w3 H4 => ?_
 refine kk <| zy <| zdb (Zf2 y) H4 fun b6 w7 H8 => ?_
 refine kk <| wv 4 (.bool false) <| Z0y <| wv 5 (pt b2 34) <| zw1 6 (vu x.t) (H8.cell 1 rfl kr) <| wv 7 (pt b6 34) <| zw1 8 (vu y.t) (H8.cell 2 rfl kr) <| wv 9 (.bool (decide (x.t < y.t))) <| wv 10 (.bool (decide (x.t < y.t))) ?_
 refine zil 10 (fun b9 g10 => ?_) fun b9 g12 => ?_
 ·iterate 6 refine wn 5 10 false ?_
  iterate 5 refine wu 11 16 true ?_
  refine wn 5 10 false ?_
  refine wv 23 (.bool true) <| wv 4 (.bool true) <| znt <| Zq <| ze1 (.bool true) ?_
  exact ⟨by unfold Z3t; simp [b9], H8.upd 0 rfl [] ne⟩
 refine wy 5 10 false 11 (pt b2 34) <| wy 5 10 false 12 (vu x.t) ?_ (hr := zl1 (H8.cell 1 rfl kr))
 refine wy 5 10 false 13 (pt b6 34) <| wy 5 10 false 14 (vu y.t) ?_ (hr := zl1 (H8.cell 2 rfl kr))
 refine wy 5 10 false 15 (.bool (decide (x.t = y.t))) <| wy 5 10 false 16 (.bool (decide (x.t = y.t))) ?_
 refine zil 16 (fun b14 g15 => ?_) fun b14 g21 => ?_
 ·refine wy 11 16 true 17 (pt b2 2) <| wy 11 16 true 18 (.agg ⟨(hc x.h)⟩) ?_ (hr := zlN (vs := (hc x.h)) (H8.at 1 rfl))
  refine wy 11 16 true 19 (pt b6 2) <| wy 11 16 true 20 (.agg ⟨(hc y.h)⟩) ?_ (hr := zlN (vs := (hc y.h)) (H8.at 2 rfl))
  refine Z5I (Z11 11 16 true rfl kr rfl kr) (fun Kq kq => ?_)
  refine zdq 21 (Z9M w7 x.h y.h) H8 ?_
  intro w18 H19
  refine kq _ _ <| wy 5 10 false 22 (.bool (Zba x.h y.h)) <| wv 23 (.bool (Zba x.h y.h)) <| wv 4 (.bool (Zba x.h y.h)) <| znt <| Zq <| ze1 (.bool (Zba x.h y.h)) ?_
  exact ⟨by unfold Z3t; simp [b9, b14], H19.upd 0 rfl [] ne⟩
 iterate 5 refine wn 11 16 true ?_
 refine wy 5 10 false 22 (.bool false) <| wv 23 (.bool false) <| wv 4 (.bool false) <| znt <| Zq <| ze1 (.bool false) ?_
 exact ⟨by unfold Z3t; simp [b9, b14], H8.upd 0 rfl [] ne⟩
theorem Zd1 (w : World) (a b c d : Int) :
  Calls Tryz.prog 27 #[(.agg ⟨([(.int .i64 (a)), (.int .i64 (b))] : List Value)⟩), (.agg ⟨([(.int .i64 (c)), (.int .i64 (d))] : List Value)⟩)] w fun e w' => e = .returned (.bool (decide (a < c) || (decide (a = c) && decide (b < d)))) ∧ Upd [] w w' := by
 have H := Sat.start0 w
 refine Z8 Tryz.func27 rfl 24 rfl kn ?_
 refine zsl <| zy <| zdb (ZeW a b) H fun b2 w3 H4 => ?_
 refine kk <| zy <| zdb (ZeW c d) H4 fun b6 w7 H8 => ?_
 refine kk <| wv 4 (.bool false) <| Z0y <| wv 5 (pt b2 0) <| zw1 6 (vi a) (H8.cell 1 rfl rfl) <| wv 7 (pt b6 0) <| zw1 8 (vi c) (H8.cell 2 rfl rfl) <| wv 9 (.bool (decide (a < c))) <| wv 10 (.bool (decide (a < c))) ?_
 refine zil 10 (fun b9 g10 => ?_) fun b9 g10 => ?_
 ·iterate 6 refine wn 5 10 false ?_
  iterate 5 refine wu 11 16 true ?_
  refine wn 5 10 false ?_
  refine wv 23 (.bool true) <| wv 4 (.bool true) <| znt <| Zq <| ze1 (.bool true) ?_
  exact ⟨by simp [b9], H8.upd 0 rfl [] ne⟩
 refine wy 5 10 false 11 (pt b2 0) <| wy 5 10 false 12 (vi a) ?_ (hr := zl1 (H8.cell 1 rfl rfl))
 refine wy 5 10 false 13 (pt b6 0) <| wy 5 10 false 14 (vi c) ?_ (hr := zl1 (H8.cell 2 rfl rfl))
 refine wy 5 10 false 15 (.bool (decide (a = c))) <| wy 5 10 false 16 (.bool (decide (a = c))) ?_
 refine zil 16 (fun b14 g15 => ?_) fun b14 g17 => ?_
 ·refine wy 11 16 true 17 (pt b2 1) <| wy 11 16 true 18 (vi b) ?_ (hr := zl1 (H8.cell 1 rfl rfl))
  refine wy 11 16 true 19 (pt b6 1) <| wy 11 16 true 20 (vi d) ?_ (hr := zl1 (H8.cell 2 rfl rfl))
  refine wy 11 16 true 21 (.bool (decide (b < d))) <| wy 5 10 false 22 (.bool (decide (b < d))) <| wv 23 (.bool (decide (b < d))) <| wv 4 (.bool (decide (b < d))) <| znt <| Zq <| ze1 (.bool (decide (b < d))) ?_
  exact ⟨by simp [b9, b14], H8.upd 0 rfl [] ne⟩
 iterate 5 refine wn 11 16 true ?_
 refine wy 5 10 false 22 (.bool false) <| wv 23 (.bool false) <| wv 4 (.bool false) <| znt <| Zq <| ze1 (.bool false) ?_
 exact ⟨by simp [b9, b14], H8.upd 0 rfl [] ne⟩
def Za1 : Go.Shelf.Ren := ⟨fun | 41 => 121 | n => n, fun | 22 => 74 | 23 => 149 | 4 => 4 | n => n, fun | n => n⟩
theorem ZcA : Go.Proofs.SlLaysE0.n41 Tryz.prog Za1 := {
 mixed := by kernel_rfl,
 f41 := ⟨Tryz.f121.name, by decide, Tryz.func121.trans (congrArg some (by kernel_rfl))⟩,
 t4 := Tryz.underlying4,
 a4 := Tryz.isAgg4,
 z4 := Tryz.sizeOf4,
 v4 := Tryz.zeroValue4,
 t22 := Tryz.underlying74,
 a22 := Tryz.isAgg74,
 z22 := Tryz.sizeOf74,
 v22 := Tryz.zeroValue74 }
theorem ZbP (w : World) (v : Value) (s : List Z4) (hs : (Zc 149 38 v s.length (s.flatMap Z1U)).ok w) (hl : s.length ≤ 1000) : Calls Tryz.prog 121 #[v] w fun e w' => ∃ u, e = .returned u ∧ (Zc 149 38 u s.length (s.flatMap Z1U)).ok w' ∧ Upd [] w w' ∧ ∀ b, (Zc 149 38 u s.length (s.flatMap Z1U)).fp b → w.heap.size ≤ b := by
 have hfl : (s.flatMap Z1U).length = s.length * 38 := Z0A Z1U 38 Z6L s
 obtain ⟨i, z, _, h1, h2, h3, h4, h5, h6⟩ := Z3C (P := Tryz.prog) (T := 74) (e := 149) (size := 38) (bytes := 80) (by kernel_rfl)
 have hs' := hs
 rcases hs.2 with ⟨rfl, h0⟩ | ⟨g, c, cur, rfl, _⟩
 ·obtain rfl := List.eq_nil_of_length_eq_zero h0
  exact (AnyE.slices_Clone_nil (P := Tryz.prog) ZcA 0 0 w).mono fun e w' ⟨he, hw⟩ => ⟨_, he, World.ownsRow_nil _ 0 _ _, hw ▸ Upd.refl _ _, fun b hb => by simp [Zc, Value.ownBlock] at hb⟩
 ·refine (AnyE.slices_Clone (P := Tryz.prog) ZcA i z 38 80 h1 h2 h3 h4 h5 h6 Tryz.sizeOf149 g 0 s.length c (s.flatMap Z1U) w hfl (by unfold maxLen; omega) (by omega) (fun j u hu => by rw [Nat.zero_add]; exact Z2J hs' rfl hu) (fun u hu => List.all_eq_true.1 (ZX Z1U Z6T s) u hu)).mono fun e w' ⟨v', he, hr, _, hb⟩ => ⟨v', he, ?_, Below.upd hb, ?_⟩
  ·refine ⟨hr.1, ?_⟩
   rcases hr.2 with h | ⟨g', cap, cur', e1, _, r⟩
   ·exact .inl h
   ·exact .inr ⟨g', cap, cur', e1, Nat.zero_le _, r⟩
  ·intro b hb2
   rcases hr.2 with ⟨rfl, _⟩ | ⟨g', cap, cur', rfl, hge, _⟩
   ·simp [Zc, Value.ownBlock] at hb2
   ·simp only [Zc, Value.ownBlock, Option.some.injEq] at hb2; omega
abbrev Z2T (p0 : Z9) (p1 : Option Addr) (p2 : Nat) (p3 : Nat) : List Value := ([(.int .i64 p0.cl), (.int .i64 p0.seq)] : List Value) ++ hc p0.h ++ ([(.int .i64 p0.len), (.int .i64 p0.sb), (.int .i64 p0.sm), (.slice p1 p2 p3)] : List Value)
abbrev Z6u : List Value := ([(.int .i64 (0)), (.int .i64 (0))] : List Value) ++ hc Zn ++ ([(.int .i64 (0)), (.int .i64 (0)), (.int .i64 (0)), (.slice none 0 0)] : List Value)
abbrev Z9d (p0 : PrR) : List Value := ([(.int .i64 p0.r), (.int .i64 p0.e), (.int .u64 p0.f), (.slice p0.ca p0.C.length p0.cc), (.int .i64 p0.sb), (.int .i64 p0.sm)] : List Value)
abbrev Z8C : List Value := ([(.int .i64 (0)), (.int .i64 (0)), (.int .u64 (0)), (.slice none 0 0), (.int .i64 (0)), (.int .i64 (0))] : List Value)
abbrev ZcL (p0 : Option Addr) (p1 : List CeR) (p2 : Nat) : Ck := Zc 76 38 (.slice p0 p1.length p2) p1.length (p1.flatMap Z0V)
abbrev Z5J (p0 : Z9) (p1 : CeR) (p2 : Nat) : List Value := ([(.int .i64 p0.cl), (.int .i64 p0.seq)] : List Value) ++ hc p0.h ++ ([(.int .i64 p0.len), (.int .i64 p0.sb), (.int .i64 p0.sm), (.slice p1.sa p2 p1.sc)] : List Value)
abbrev Z5p (p0 : PrR) (p1 : Option Addr) (p2 : Nat) (p3 : Nat) : List Value := ([(.int .i64 p0.r), (.int .i64 p0.e), (.int .u64 p0.f), (.slice p1 p2 p3), (.int .i64 p0.sb), (.int .i64 p0.sm)] : List Value)
theorem Z8Y (w : World) (x : Z9) (sa : Option Addr) (sc : Nat) (S : List Z4) (hrow : (Zc 149 38 (.slice sa S.length sc) S.length (S.flatMap Z1U)).ok w) (hlS : S.length ≤ 1000) :
  Calls Tryz.prog 93 #[(.agg ⟨(([(.int .i64 (x.cl)), (.int .i64 (x.seq))] : List Value) ++ hc x.h ++ ([(.int .i64 (x.len)), (.int .i64 (x.sb)), (.int .i64 (x.sm)), ((.slice sa S.length sc))] : List Value))⟩)] w fun e w' => ∃ u, e = .returned (.agg ⟨Zaa x ++ [u]⟩) ∧ (Zc 149 38 u S.length (S.flatMap Z1U)).ok w' ∧ Upd [] w w' ∧ ∀ q_, (Zc 149 38 u S.length (S.flatMap Z1U)).fp q_ → w.heap.size ≤ q_ := by
 have H := Sat.start0 w
 refine Z8 Tryz.func93 rfl 8 rfl (Nat.le_of_ble_eq_true rfl) ?_
 refine zsl <| zwd fun Kq kq => zdb (Z2T x sa S.length sc) H fun b2 w3 H4 => ?_
 refine kq _ _ <| zwd fun Kq kq => zda (Z6u) H4 fun b6 w7 H8 => ?_
 refine kq _ _ <| Z0y <| wv 3 (pt b2 37) <| zw1 4 ((.slice sa S.length sc)) (H8.cell 1 rfl (by kernel_rfl)) <| zwd fun Kq kq => zdc 5 (ZbP w7 ((.slice sa S.length sc)) S (H8.roCk 0 rfl hrow (fun _ _ h => h)) hlS) ?_
 rintro _ w10 ⟨u11, rfl, k12, p13, q14⟩
 have H15 := H8.addU p13 k12 q14
 obtain ⟨a16, c17, rfl⟩ := Z2 (H15.at 3 rfl)
 refine ⟨_, rfl, ?_⟩
 refine kq _ _ <| wv 6 (pt b2 37) <| zwd fun Kq kq => zds ([(.slice a16 S.length c17)] : List Value) (Z2T x a16 S.length c17) H15 1 fun w19 H20 => ?_
 refine kq _ _ <| Z0y <| zwN 7 (Z2T x a16 S.length c17) (H20.at 1 rfl) <| zwd fun Kq kq => Z1z (Z2T x a16 S.length c17) H20 2 fun w23 H24 => ?_
 refine kq _ _ <| znt <| Zq <| Z66 rfl (ZL (vs := (Z2T x a16 S.length c17)) rfl (by kernel_rfl) (by kernel_rfl) (Nat.le_of_ble_eq_true (by kernel_rfl)) (H24.at 2 rfl) (by kernel_rfl)) ?_
 exact ⟨_, rfl, H24.at 3 rfl, H24.upd 0 rfl [] (fun _ h => h.elim), H24.fresh 0 rfl (fun _ h => h) 3 rfl rfl⟩
def CoC (C D : List CeR) : Prop := D.map (fun c => (c.x, c.S)) = C.map (fun c => (c.x, c.S))
theorem Zfd {C D : List CeR} (h : CoC C D) : D.length = C.length := by
 have q := congrArg List.length h
 simpa using q
theorem Zem {C D : List CeR} {i : Nat} {sa : Option Addr} {sc : Nat} (h : CoC (C.take i) D) (hi : i < C.length) : CoC (C.take (i + 1)) (D ++ [⟨(C.getD i ce0).x, sa, sc, (C.getD i ce0).S⟩]) := by
 unfold CoC at h ⊢
 rw [Z76 hi, List.map_append, List.map_append, h]; rfl
theorem Z8G (w : World) (p : PrR) (hC : ListAt Z0V 38 w (.slice p.ca p.C.length p.cc) p.C) (hlC : p.C.length ≤ 64) (hst : ∀ i, i < p.C.length → (stC (p.C.getD i ce0)).ok w) (hlS : ∀ i, i < p.C.length → (p.C.getD i ce0).S.length ≤ 1000) :
  Calls Tryz.prog 47 #[(.agg ⟨([(.int .i64 (p.r)), (.int .i64 (p.e)), (.int .u64 (p.f)), (.slice p.ca p.C.length p.cc), (.int .i64 (p.sb)), (.int .i64 (p.sm))] : List Value)⟩)] w fun e w' => ∃ (da : Option Addr) (dc : Nat) (D : List CeR) (B : List Ck), e = .returned (.agg ⟨Z0p ⟨p.r, p.e, p.f, da, dc, p.sb, p.sm, D⟩⟩) ∧ CoC p.C D ∧ (∀ c ∈ D, stC c ∈ B) ∧ (ZR [Zc 76 38 (.slice da D.length dc) D.length (D.flatMap Z0V), Z0b B]).ok w' ∧ Upd [] w w' ∧ ∀ q_, (ZR [Zc 76 38 (.slice da D.length dc) D.length (D.flatMap Z0V), Z0b B]).fp q_ → w.heap.size ≤ q_ := by
 have H := Sat.start0 w
 refine Z8 Tryz.func47 rfl 22 rfl (Nat.le_of_ble_eq_true rfl) ?_
 refine zsl <| zwd fun Kq kq => zdb (Z9d p) H fun b2 w3 H4 => ?_
 refine kq _ _ <| zwd fun Kq kq => zda (Z8C) H4 fun b6 w7 H8 => ?_
 refine kq _ _ <| Z0y <| wv 3 (.slice none 0 0) <| znt <| Z5 <| zsl <| wv 6 (pt b2 3) <| zw1 7 (.slice p.ca p.C.length p.cc) (H8.cell 1 rfl rfl) <| wv 8 (.int .i64 ((p.C.length : Int))) <| wv 9 (.int .i64 (0)) ?_
 refine znt <| Za ?_
 have H9 := H8.addNil 76 38
 have H10 := H9.bag0
 refine Zw ([3, 5] ++ List.range' 9 10) (fun F_ W_ m_ => ∃ (i : Nat) (da : Option Addr) (dc : Nat) (D : List CeR) (B : List Ck), F_ 9 = (.int .i64 ((i : Int))) ∧ F_ 3 = (.slice da D.length dc) ∧ (i ≤ p.C.length) ∧ (CoC (p.C.take i) D) ∧ (∀ c ∈ D, stC c ∈ B) ∧ Sat w [Z3 w (fun _ => False), Z0 b2 71 (Z9d p), Z0 b6 71 (Z8C), (ZcL da D dc), Z0b B] W_ ∧ m_ = p.C.length - i) _ ⟨0, none, 0, [], [], (show ((.int .i64 (0)) : Value) = _ by first | rfl | go_num), (by first | rfl | go_num), (Nat.zero_le _), rfl, (fun c hm => by simp at hm), H10, rfl⟩ ?_
 rintro g11 w12 _ ⟨i, da, dc, D, B, v14, v15, hi, hco, hin, H13, rfl⟩
 refine Zd 9 _ v14 ?_
 refine Zd 3 _ v15 ?_
 have hDl := Zfd hco
 rw [List.length_take] at hDl
 refine zsl <| wv 10 (.bool (decide ((i : Int) < (p.C.length : Int)))) <| znt <| Z5 ?_
 refine (ZJ (decide ((i : Int) < (p.C.length : Int)))).elim (fun b17 => ?_) (fun b17 => ?_)
 ·have g18 := of_decide_eq_true b17
  refine Z33 _ b17 ?_
  refine Zt <| ztn <| Z5 <| Za <| zsl ?_
  obtain ⟨g20, o21, c22, e23, R24⟩ := SliceOf.atD hC ce0 (show i < p.C.length by omega)
  refine wv 11 (.pointer (some ⟨g20, o21 + ((i : Int)).toNat * 38, none⟩)) ?_ (hr := Zh (E := 76) (by kernel_rfl) (by kernel_rfl) (Nat.le_of_ble_eq_true rfl) rfl e23 rfl (by omega) (by omega))
  refine wv 12 (.agg ⟨(Z5J ((p.C.getD i ce0).x) (p.C.getD i ce0) ((p.C.getD i ce0).S.length))⟩) ?_ (hr := Z05 (vs := (Z5J ((p.C.getD i ce0).x) (p.C.getD i ce0) ((p.C.getD i ce0).S.length))) rfl (by kernel_rfl) (by kernel_rfl) (Nat.le_of_ble_eq_true (by kernel_rfl)) (H13.runR 0 rfl (Z0W R24 0 (by kernel_rfl) (show o21 + ((i : Int)).toNat * 38 = o21 + i * 38 + 0 by omega)) (fun h => h)))
  refine zwd fun Kq kq => zda (Z6u) H13 fun b26 w27 H28 => ?_
  refine kq _ _ <| zwd fun Kq kq => Z1z (Z5J ((p.C.getD i ce0).x) (p.C.getD i ce0) ((p.C.getD i ce0).S.length)) H28 5 fun w30 H31 => ?_
  refine kq _ _ <| znt <| Zl <| wv 13 (.slice da D.length dc) <| zwN 14 (Z5J ((p.C.getD i ce0).x) (p.C.getD i ce0) ((p.C.getD i ce0).S.length)) (H31.at 5 rfl) <| zwd fun Kq kq => zdc 15 (Z8Y w30 (p.C.getD i ce0).x (p.C.getD i ce0).sa (p.C.getD i ce0).sc (p.C.getD i ce0).S (H31.roCk 0 rfl (hst i (by omega)) (fun _ _ h => h)) (hlS i (by omega))) ?_
  rintro _ w34 ⟨u35, rfl, k36, p37, q38⟩
  have H39 := H31.addU p37 k36 q38
  obtain ⟨a40, c41, rfl⟩ := Z2 (H39.at 6 rfl)
  refine ⟨_, rfl, ?_⟩
  refine kq _ _ <| zwd fun Kq kq => Z2w 76 38 96 (.agg ⟨(Z6u)⟩) [(0, (.agg ⟨(Z2T ((p.C.getD i ce0).x) a40 (((p.C.getD i ce0).S).length) c41)⟩))] (Z2T ((p.C.getD i ce0).x) a40 (((p.C.getD i ce0).S).length) c41) H39 fun b43 w44 H45 => ?_
  have H46 := H45.ct 7 rfl (Zc 76 38 (.slice (some ⟨b43, 0, none⟩) 1 1) 1 ([(⟨(p.C.getD i ce0).x, a40, c41, (p.C.getD i ce0).S⟩ : CeR)].flatMap Z0V)) (by rw [(show ((Z2T ((p.C.getD i ce0).x) a40 (((p.C.getD i ce0).S).length) c41) : List Value) = [(⟨(p.C.getD i ce0).x, a40, c41, (p.C.getD i ce0).S⟩ : CeR)].flatMap Z0V by kernel_rfl)])
  refine kq _ _ <| zwd fun Kq kq => Z00 (T := 67) (e := 76) (size := 38) (bytes := 96) rfl H46 (by kernel_rfl) 3 7 rfl rfl rfl rfl (ZX Z0V Z5t [(⟨(p.C.getD i ce0).x, a40, c41, (p.C.getD i ce0).S⟩ : CeR)]) (by omega) (by omega) fun v48 w49 H50 => ?_
  have H53 := H50.ct 3 rfl (Zc 76 38 v48 ((D ++ [(⟨(p.C.getD i ce0).x, a40, c41, (p.C.getD i ce0).S⟩ : CeR)]).length) ((D ++ [(⟨(p.C.getD i ce0).x, a40, c41, (p.C.getD i ce0).S⟩ : CeR)]).flatMap Z0V)) ja
  obtain ⟨a51, c52, rfl⟩ := Z2 (H53.at 3 rfl)
  refine kq _ _ <| wv 3 (.slice a51 ((D ++ [(⟨(p.C.getD i ce0).x, a40, c41, (p.C.getD i ce0).S⟩ : CeR)]).length) c52) <| Zu <| Z7 <| ztn ?_
  have H54 := (H53.pk [4, 6, 0, 1, 2, 3, 5, 7]).bag
  have H55 := H54.pk [1, 2, 3, 4, 0, 5, 6]
  refine Zl <| zwi 18 ((i : Int) + 1) <| wv 9 (.int .i64 ((i : Int) + 1)) <| Zu ?_
  have H56 := H55.pk [0, 1, 2, 3, 4]
  refine Z6 ?_ _ ⟨(i + 1), a51, c52, (D ++ [(⟨(p.C.getD i ce0).x, a40, c41, (p.C.getD i ce0).S⟩ : CeR)]), (stC (⟨(p.C.getD i ce0).x, a40, c41, (p.C.getD i ce0).S⟩ : CeR) :: B), rfl, (show ((.slice a51 ((D ++ [(⟨(p.C.getD i ce0).x, a40, c41, (p.C.getD i ce0).S⟩ : CeR)]).length) c52) : Value) = _ by first | rfl | go_num), (by omega), (Zem hco (by omega)), (Zfv hin), H56, rfl⟩ (by omega)
  exact zs
 have g57 := of_decide_eq_false b17
 refine Z2X _ b17 ?_
 refine zxb <| ztn <| zsl <| wv 19 (.slice da D.length dc) <| wv 20 (pt b2 3) <| zwd fun Kq kq => zds ([(.slice da D.length dc)] : List Value) (Z5p p da D.length dc) H13 1 fun w60 H61 => ?_
 refine kq _ _ <| Z0y <| zwN 21 (Z5p p da D.length dc) (H61.at 1 rfl) <| zwd fun Kq kq => Z1z (Z5p p da D.length dc) H61 2 fun w64 H65 => ?_
 refine kq _ _ <| znt <| Zq <| Z66 rfl (ZL (vs := (Z5p p da D.length dc)) rfl (by kernel_rfl) (by kernel_rfl) (Nat.le_of_ble_eq_true (by kernel_rfl)) (H65.at 2 rfl) (by kernel_rfl)) ?_
 exact ⟨da, dc, D, B, rfl, (by rw [List.take_of_length_le (by omega)] at hco; exact hco), hin, H65.fn [3, 4], H65.upd 0 rfl [] (fun _ h => h.elim), H65.freshS 0 rfl (fun _ h => h) [3, 4] rfl rfl⟩
def Z9R : Go.Shelf.Ren := ⟨fun | 41 => 52 | n => n, fun | 22 => 84 | 23 => 5 | 4 => 4 | n => n, fun | n => n⟩
theorem Zdg : Go.Proofs.SlLaysE0.n41 Tryz.prog Z9R := {
 mixed := by kernel_rfl,
 f41 := ⟨Tryz.f52.name, by decide, Tryz.func52.trans (congrArg some (by kernel_rfl))⟩,
 t4 := Tryz.underlying4,
 a4 := Tryz.isAgg4,
 z4 := Tryz.sizeOf4,
 v4 := Tryz.zeroValue4,
 t22 := Tryz.underlying84,
 a22 := Tryz.isAgg84,
 z22 := Tryz.sizeOf84,
 v22 := Tryz.zeroValue84 }
theorem Za4 (w : World) (v : Value) (s : List UInt8) (hs : (Zc 5 1 v s.length (s.flatMap Zy)).ok w) (hl : s.length ≤ 1000) : Calls Tryz.prog 52 #[v] w fun e w' => ∃ u, e = .returned u ∧ (Zc 5 1 u s.length (s.flatMap Zy)).ok w' ∧ Upd [] w w' ∧ ∀ b, (Zc 5 1 u s.length (s.flatMap Zy)).fp b → w.heap.size ≤ b := by
 have hfl : (s.flatMap Zy).length = s.length * 1 := Z0A Zy 1 Zk s
 obtain ⟨i, z, _, h1, h2, h3, h4, h5, h6⟩ := Z3C (P := Tryz.prog) (T := 84) (e := 5) (size := 1) (bytes := 1) (by kernel_rfl)
 have hs' := hs
 rcases hs.2 with ⟨rfl, h0⟩ | ⟨g, c, cur, rfl, _⟩
 ·obtain rfl := List.eq_nil_of_length_eq_zero h0
  exact (AnyE.slices_Clone_nil (P := Tryz.prog) Zdg 0 0 w).mono fun e w' ⟨he, hw⟩ => ⟨_, he, World.ownsRow_nil _ 0 _ _, hw ▸ Upd.refl _ _, fun b hb => by simp [Zc, Value.ownBlock] at hb⟩
 ·refine (AnyE.slices_Clone (P := Tryz.prog) Zdg i z 1 1 h1 h2 h3 h4 h5 h6 Tryz.sizeOf5 g 0 s.length c (s.flatMap Zy) w hfl (by unfold maxLen; omega) (by omega) (fun j u hu => by rw [Nat.zero_add]; exact Z2J hs' rfl hu) (fun u hu => List.all_eq_true.1 (ZX Zy Z0C s) u hu)).mono fun e w' ⟨v', he, hr, _, hb⟩ => ⟨v', he, ?_, Below.upd hb, ?_⟩
  ·refine ⟨hr.1, ?_⟩
   rcases hr.2 with h | ⟨g', cap, cur', e1, _, r⟩
   ·exact .inl h
   ·exact .inr ⟨g', cap, cur', e1, Nat.zero_le _, r⟩
  ·intro b hb2
   rcases hr.2 with ⟨rfl, _⟩ | ⟨g', cap, cur', rfl, hge, _⟩
   ·simp [Zc, Value.ownBlock] at hb2
   ·simp only [Zc, Value.ownBlock, Option.some.injEq] at hb2; omega
def Za9 : Go.Shelf.Ren := ⟨fun | 41 => 56 | n => n, fun | 22 => 87 | 23 => 122 | 4 => 4 | n => n, fun | n => n⟩
theorem ZcY : Go.Proofs.SlLaysE0.n41 Tryz.prog Za9 := {
 mixed := by kernel_rfl,
 f41 := ⟨Tryz.f56.name, by decide, Tryz.func56.trans (congrArg some (by kernel_rfl))⟩,
 t4 := Tryz.underlying4,
 a4 := Tryz.isAgg4,
 z4 := Tryz.sizeOf4,
 v4 := Tryz.zeroValue4,
 t22 := Tryz.underlying87,
 a22 := Tryz.isAgg87,
 z22 := Tryz.sizeOf87,
 v22 := Tryz.zeroValue87 }
theorem ZbJ (w : World) (v : Value) (s : List Z1d) (hs : (Zc 122 4 v s.length (s.flatMap Z3n)).ok w) (hl : s.length ≤ 1000) : Calls Tryz.prog 56 #[v] w fun e w' => ∃ u, e = .returned u ∧ (Zc 122 4 u s.length (s.flatMap Z3n)).ok w' ∧ Upd [] w w' ∧ ∀ b, (Zc 122 4 u s.length (s.flatMap Z3n)).fp b → w.heap.size ≤ b := by
 have hfl : (s.flatMap Z3n).length = s.length * 4 := Z0A Z3n 4 Zc5 s
 obtain ⟨i, z, _, h1, h2, h3, h4, h5, h6⟩ := Z3C (P := Tryz.prog) (T := 87) (e := 122) (size := 4) (bytes := 32) (by kernel_rfl)
 have hs' := hs
 rcases hs.2 with ⟨rfl, h0⟩ | ⟨g, c, cur, rfl, _⟩
 ·obtain rfl := List.eq_nil_of_length_eq_zero h0
  exact (AnyE.slices_Clone_nil (P := Tryz.prog) ZcY 0 0 w).mono fun e w' ⟨he, hw⟩ => ⟨_, he, World.ownsRow_nil _ 0 _ _, hw ▸ Upd.refl _ _, fun b hb => by simp [Zc, Value.ownBlock] at hb⟩
 ·refine (AnyE.slices_Clone (P := Tryz.prog) ZcY i z 4 32 h1 h2 h3 h4 h5 h6 Tryz.sizeOf122 g 0 s.length c (s.flatMap Z3n) w hfl (by unfold maxLen; omega) (by omega) (fun j u hu => by rw [Nat.zero_add]; exact Z2J hs' rfl hu) (fun u hu => List.all_eq_true.1 (ZX Z3n Z8L s) u hu)).mono fun e w' ⟨v', he, hr, _, hb⟩ => ⟨v', he, ?_, Below.upd hb, ?_⟩
  ·refine ⟨hr.1, ?_⟩
   rcases hr.2 with h | ⟨g', cap, cur', e1, _, r⟩
   ·exact .inl h
   ·exact .inr ⟨g', cap, cur', e1, Nat.zero_le _, r⟩
  ·intro b hb2
   rcases hr.2 with ⟨rfl, _⟩ | ⟨g', cap, cur', rfl, hge, _⟩
   ·simp [Zc, Value.ownBlock] at hb2
   ·simp only [Zc, Value.ownBlock, Option.some.injEq] at hb2; omega
section
variable {w0 w : World} {L1 L2 R : List Ck}
theorem Sat.bagApp (H : Sat w0 (Z0b L1 :: Z0b L2 :: R) w) : Sat w0 (Z0b (L1 ++ L2) :: R) w := by
 have h1 := List.pairwise_cons.1 H.dis
 have h2 := List.pairwise_cons.1 h1.2
 refine ⟨H.ext, fun C hC => ?_, List.pairwise_cons.2 ⟨fun C hC b hb hc => ?_, h2.2⟩⟩
 ·rcases List.mem_cons.1 hC with rfl | hC
  ·intro B hB
   rcases List.mem_append.1 hB with hB | hB
   ·exact (show (Z0b L1).ok w from H.all _ (by simp)) B hB
   ·exact (show (Z0b L2).ok w from H.all _ (by simp)) B hB
  ·exact H.all _ (by simp [hC])
 ·obtain ⟨B, hB, hf⟩ := hb
  rcases List.mem_append.1 hB with hB | hB
  ·exact h1.1 C (by simp [hC]) b ⟨B, hB, hf⟩ hc
  ·exact h2.1 C hC b ⟨B, hB, hf⟩ hc
end
theorem Z5V {α : Type} {enc : α → List Value} {sz e c m : Nat} {a : Option Addr} {D : List α} {w : World} (hs : ∀ x, (enc x).length = sz) (h : (Zc e sz (.slice a D.length c) D.length (D.flatMap enc)).ok w) : (Zc e sz (.slice a (D.take m).length c) (D.take m).length ((D.take m).flatMap enc)).ok w := by
 have hle : (D.take m).length ≤ D.length := by rw [List.length_take]; omega
 refine ⟨Z0A enc sz hs _, ?_⟩
 rcases h.2 with ⟨hv, h0⟩ | ⟨g, cap, cur, hv, hb, hg, hn, hm, hc, ht⟩
 ·simp only [Value.slice.injEq] at hv
  obtain ⟨rfl, _, rfl⟩ := hv
  have : (D.take m).length = 0 := by omega
  exact .inl ⟨by rw [this], this⟩
 ·simp only [Value.slice.injEq] at hv
  obtain ⟨rfl, _, rfl⟩ := hv
  refine .inr ⟨g, c, cur, rfl, hb, hg, by omega, hm, hc, ?_⟩
  have hk : (D.take m).length * sz ≤ D.length * sz := Nat.mul_le_mul_right _ hle
  have e1 : cur.toList.take ((D.take m).length * sz) = (D.flatMap enc).take ((D.take m).length * sz) := by
   rw [← ht, List.take_take, Nat.min_eq_left hk]
  rw [e1]
  have e2 : D.flatMap enc = (D.take m).flatMap enc ++ (D.drop m).flatMap enc := by rw [← List.flatMap_append, List.take_append_drop]
  rw [e2, ← Z0A enc sz hs (D.take m), List.take_left]
def ZbB (p : PrR) : Int × Int × Int × Int × Int × List (Z9 × List Z4) := (p.r, p.e, p.f, p.sb, p.sm, p.C.map fun c => (c.x, c.S))
def keyO (o : OpR) : Int × List UInt8 × Hash := (o.i, o.P, o.h)
def keyT (t : TbR) : Int × List Z1d := (t.i, t.D)
def CoPs (A B : List PrR) : Prop := B.map ZbB = A.map ZbB
def CoOs (A B : List OpR) : Prop := B.map keyO = A.map keyO
def CoTs (A B : List TbR) : Prop := B.map keyT = A.map keyT
section
variable {β γ : Type} {key : β → γ} {A B : List β} {x y : β} {i : Nat}
theorem Z85 (h : B.map key = A.map key) : B.length = A.length := by simpa using congrArg List.length h
theorem Z8f (h : B.map key = (A.take i).map key) (hx : A[i]? = some x) (hk : key y = key x) : (B ++ [y]).map key = (A.take (i + 1)).map key := by
 rw [List.take_add_one, hx, Option.toList_some, List.map_append, List.map_append, h, List.map_singleton, List.map_singleton, hk]
end
theorem Zfe {p : PrR} {da : Option Addr} {dc : Nat} {D : List CeR} (h : CoC p.C D) : ZbB ⟨p.r, p.e, p.f, da, dc, p.sb, p.sm, D⟩ = ZbB p := by
 unfold CoC at h; unfold ZbB; simp only [h]
structure PrK (w : World) (p : PrR) : Prop where
 at_ : ListAt Z0V 38 w (.slice p.ca p.C.length p.cc) p.C
 len : p.C.length ≤ 64
 st : ∀ i, i < p.C.length → (stC (p.C.getD i ce0)).ok w
 sl : ∀ i, i < p.C.length → (p.C.getD i ce0).S.length ≤ 1000
structure OpK (w : World) (o : OpR) : Prop where
 ok : (opC o).ok w
 len : o.P.length ≤ 1000
structure TbK (w : World) (t : TbR) : Prop where
 ok : (tbC t).ok w
 len : t.D.length ≤ 1000
theorem OpK.list {w : World} {o : OpR} (h : OpK w o) : ListAt Zy 1 w (.slice o.pa o.P.length o.pc) o.P := ListAt.row Zk (by decide) h.ok
theorem Z90 {L : List OpR} {i : Nat} (h : i < L.length) : L.getD i op0 ∈ L := by
 rw [List.getD_eq_getElem?_getD, List.getElem?_eq_getElem h]; exact List.getElem_mem h
section
variable {last tm : Int} {lg : NmD → Bool} {M : Zan} {Z : List CeR} {c : CeR} {n : NmD} {e : Z1H}
theorem Zed (h : ∀ c ∈ Z, Z51 last tm lg (Z2k c) = true) : Z7i last tm lg Z = [] := by
 have key : ∀ (L : List CeR) (M : Zan), (∀ c ∈ L, Z51 last tm lg (Z2k c) = true) → L.foldl (fun M c => Z52 last tm lg M (Z2k c)) M = M := by
  intro L
  induction L with
  | nil => intro M _; rfl
  | cons c L ih =>
   intro M hc
   rw [List.foldl_cons, Z2C (hc c (by simp))]
   exact ih M fun d hd => hc d (by simp [hd])
 exact key Z [] h
end
end Go.Proofs.YtenihpghfdcpkaaGreat
namespace Go.Proofs.YtenihpghfdcpkaaGreat
open Go.RowKit Go.Shelf
def sortP_ren : Go.Shelf.Ren := ⟨fun | 6 => 90 | 15 => 102 | 14 => 119 | 28 => 136 | 29 => 137 | 20 => 149 | 21 => 150 | 22 => 151 | 23 => 152 | 24 => 153 | 25 => 154 | 26 => 155 | 27 => 156 | 46 => 193 | 47 => 182 | 48 => 183 | 49 => 194 | 50 => 195 | 57 => 214 | n => n, fun | 22 => 41 | 24 => 71 | 25 => 183 | 3 => 3 | 39 => 108 | 0 => 0 | 53 => 198 | 55 => 25 | 4 => 4 | 46 => 222 | 45 => 221 | 50 => 226 | 5 => 5 | 9 => 9 | 66 => 257 | 70 => 261 | 76 => 281 | 77 => 282 | n => n, fun | n => n⟩
theorem sortP : Go.Proofs.SlLaysF0.n6 Tryz.prog sortP_ren := {
 mixed := by kernel_rfl,
 f6 := ⟨Tryz.f90.name, by decide, Tryz.func90.trans (congrArg some (by kernel_rfl))⟩,
 f14 := ⟨Tryz.f119.name, by decide, Tryz.func119.trans (congrArg some (by kernel_rfl))⟩,
 f15 := Tryz.func102.trans (congrArg some (by kernel_rfl)),
 f20 := ⟨Tryz.f149.name, by decide, Tryz.func149.trans (congrArg some (by kernel_rfl))⟩,
 f21 := ⟨Tryz.f150.name, by decide, Tryz.func150.trans (congrArg some (by kernel_rfl))⟩,
 f22 := ⟨Tryz.f151.name, by decide, Tryz.func151.trans (congrArg some (by kernel_rfl))⟩,
 f23 := ⟨Tryz.f152.name, by decide, Tryz.func152.trans (congrArg some (by kernel_rfl))⟩,
 f24 := ⟨Tryz.f153.name, by decide, Tryz.func153.trans (congrArg some (by kernel_rfl))⟩,
 f25 := ⟨Tryz.f154.name, by decide, Tryz.func154.trans (congrArg some (by kernel_rfl))⟩,
 f26 := ⟨Tryz.f155.name, by decide, Tryz.func155.trans (congrArg some (by kernel_rfl))⟩,
 f27 := ⟨Tryz.f156.name, by decide, Tryz.func156.trans (congrArg some (by kernel_rfl))⟩,
 f28 := Tryz.func136.trans (congrArg some (by kernel_rfl)),
 f29 := Tryz.func137.trans (congrArg some (by kernel_rfl)),
 f46 := ⟨Tryz.f193.name, by decide, Tryz.func193.trans (congrArg some (by kernel_rfl))⟩,
 f47 := Tryz.func182.trans (congrArg some (by kernel_rfl)),
 f48 := Tryz.func183.trans (congrArg some (by kernel_rfl)),
 f49 := ⟨Tryz.f194.name, by decide, Tryz.func194.trans (congrArg some (by kernel_rfl))⟩,
 f50 := ⟨Tryz.f195.name, by decide, Tryz.func195.trans (congrArg some (by kernel_rfl))⟩,
 f57 := ⟨Tryz.f214.name, by decide, Tryz.func214.trans (congrArg some (by kernel_rfl))⟩,
 t0 := Tryz.underlying0,
 a0 := Tryz.isAgg0,
 z0 := Tryz.sizeOf0,
 v0 := Tryz.zeroValue0,
 t3 := Tryz.underlying3,
 a3 := Tryz.isAgg3,
 z3 := Tryz.sizeOf3,
 v3 := Tryz.zeroValue3,
 t4 := Tryz.underlying4,
 a4 := Tryz.isAgg4,
 z4 := Tryz.sizeOf4,
 v4 := Tryz.zeroValue4,
 t5 := Tryz.underlying5,
 a5 := Tryz.isAgg5,
 z5 := Tryz.sizeOf5,
 v5 := Tryz.zeroValue5,
 t9 := Tryz.underlying9,
 a9 := Tryz.isAgg9,
 z9 := Tryz.sizeOf9,
 v9 := Tryz.zeroValue9,
 t22 := Tryz.underlying41,
 a22 := Tryz.isAgg41,
 z22 := Tryz.sizeOf41,
 v22 := Tryz.zeroValue41,
 t25 := Tryz.underlying183,
 a25 := Tryz.isAgg183,
 z25 := Tryz.sizeOf183,
 v25 := Tryz.zeroValue183,
 t39 := Tryz.underlying108,
 a39 := Tryz.isAgg108,
 z39 := Tryz.sizeOf108,
 v39 := Tryz.zeroValue108,
 t45 := Tryz.underlying221,
 a45 := Tryz.isAgg221,
 z45 := Tryz.sizeOf221,
 v45 := Tryz.zeroValue221,
 t46 := Tryz.underlying222,
 a46 := Tryz.isAgg222,
 z46 := Tryz.sizeOf222,
 v46 := Tryz.zeroValue222,
 t50 := Tryz.underlying226,
 a50 := Tryz.isAgg226,
 z50 := Tryz.sizeOf226,
 v50 := Tryz.zeroValue226,
 t53 := Tryz.underlying198,
 a53 := Tryz.isAgg198,
 z53 := Tryz.sizeOf198,
 v53 := Tryz.zeroValue198,
 t55 := Tryz.underlying25,
 a55 := Tryz.isAgg25,
 z55 := Tryz.sizeOf25,
 v55 := Tryz.zeroValue25,
 t66 := Tryz.underlying257,
 a66 := Tryz.isAgg257,
 z66 := Tryz.sizeOf257,
 v66 := Tryz.zeroValue257,
 t70 := Tryz.underlying261,
 a70 := Tryz.isAgg261,
 z70 := Tryz.sizeOf261,
 v70 := Tryz.zeroValue261,
 t76 := Tryz.underlying281,
 a76 := Tryz.isAgg281,
 z76 := Tryz.sizeOf281,
 v76 := Tryz.zeroValue281,
 t77 := Tryz.underlying282,
 a77 := Tryz.isAgg282,
 z77 := Tryz.sizeOf282,
 v77 := Tryz.zeroValue282 }
end Go.Proofs.YtenihpghfdcpkaaGreat
