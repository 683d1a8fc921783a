/- WHAT IS PROVED: contracts and plain laws of Copy12, CloneBt, CloneD, MkD12. Conditions: stated with each. -/
import Derived.Shelf.SlicesE.Clone
import Derived.Test.YtenihpghfdcpkaaGreatPO02
import Derived.Test.YtenihpghfdcpkaaGreatPO03
import Derived.Test.YtenihpghfdcpkaaGreatPO04
import Derived.Test.YtenihpghfdcpkaaGreatPO05
import Derived.Test.YtenihpghfdcpkaaGreatPO07
import Derived.Test.YtenihpghfdcpkaaGreatPO13
import Derived.Test.YtenihpghfdcpkaaGreatPO24
import Derived.Test.YtenihpghfdcpkaaGreatPO29
set_option maxHeartbeats 4000000
set_option maxRecDepth 100000
namespace Go.Proofs.YtenihpghfdcpkaaGreat
open Go.RowKit
abbrev Z4w (p0 : Zg) (p1 : Option Addr) (p2 : Nat) (p3 : Nat) : List Value := ([i6 p0.cl, i6 p0.seq] : LV) ++ hc p0.h ++ ([i6 p0.len, i6 p0.sb, i6 p0.sm, (.slice p1 p2 p3)] : LV)
abbrev Z7m : List Value := ([i6 0, i6 0] : LV) ++ hc ZC ++ ([i6 0, i6 0, i6 0, (.slice none 0 0)] : LV)
abbrev Z9f (p0 : PrR) : List Value := ([i6 p0.r, i6 p0.e, u6 p0.f, (.slice p0.ca p0.C.length p0.cc), i6 p0.sb, i6 p0.sm] : LV)
abbrev Z9A : List Value := ([i6 0, i6 0, u6 0, (.slice none 0 0), i6 0, i6 0] : LV)
abbrev Zd4 (p0 : Option Addr) (p1 : List CeR) (p2 : Nat) : Ck := Zh 76 38 (.slice p0 p1.length p2) p1.length (p1.flatMap Z0Z)
abbrev Ze3 (p0 : Zg) (p1 : CeR) (p2 : Nat) : List Value := ([i6 p0.cl, i6 p0.seq] : LV) ++ hc p0.h ++ ([i6 p0.len, i6 p0.sb, i6 p0.sm, (.slice p1.sa p2 p1.sc)] : LV)
abbrev Zd8 (p0 : PrR) (p1 : Option Addr) (p2 : Nat) (p3 : Nat) : List Value := ([i6 p0.r, i6 p0.e, u6 p0.f, (.slice p1 p2 p3), i6 p0.sb, i6 p0.sm] : LV)
theorem Z9P (w : World) (x : Zg) (sa : Option Addr) (sc : Nat) (S : List Z9) (hrow : (Zh 149 38 (.slice sa S.length sc) S.length (S.flatMap Z1T)).ok w) (hlS : S.length ≤ 1000) :
  Calls Tryz.prog 93 #[(.agg ⟨(([i6 x.cl, i6 x.seq] : LV) ++ hc x.h ++ ([i6 x.len, i6 x.sb, i6 x.sm, ((.slice sa S.length sc))] : LV))⟩)] w fun e w' => ∃ u, e = .returned (.agg ⟨Zax x ++ [u]⟩) ∧ (Zh 149 38 u S.length (S.flatMap Z1T)).ok w' ∧ Upd [] w w' ∧ ∀ q_, (Zh 149 38 u S.length (S.flatMap Z1T)).fp q_ → w.heap.size ≤ q_ := by
 have H := Sat.start0 w
 refine Za Tryz.func93 rfl 8 rfl kn ?_
 refine zsl <| zy <| zdb (Z4w x sa S.length sc) H fun b2 w3 H4 => ?_
 refine kk <| zy <| zda (Z7m) H4 fun b6 w7 H8 => ?_
 refine kk <| Z0G <| wv 3 (pt b2 37) <| zw1 4 ((.slice sa S.length sc)) (H8.cell 1 rfl kr) <| zy <| zdc 5 (ZbJ w7 ((.slice sa S.length sc)) S (H8.roCk 0 rfl hrow (fun _ _ h => h)) hlS) ?_
 rintro _ w10 ⟨u11, rfl, k12, p13, q14⟩
 have H15 := H8.addU p13 k12 q14
 obtain ⟨a16, c17, rfl⟩ := Z1 (H15.at 3 rfl)
 refine ⟨_, rfl, ?_⟩
 let A0 := Z4w x a16 S.length c17
 refine kk <| wv 6 (pt b2 37) <| zy <| zds ([(.slice a16 S.length c17)] : LV) A0 H15 1 fun w19 H20 => ?_
 refine kk <| Z0G <| zwN 7 A0 (H20.at 1 rfl) <| zy <| Z1p A0 H20 2 fun w23 H24 => ?_
 refine kk <| znt <| Zk <| Z5k rfl (ZP (vs := A0) rfl kr kr kn (H24.at 2 rfl) kr) ?_
 exact ⟨_, rfl, H24.at 3 rfl, H24.upd 0 rfl [] ne, H24.fresh 0 rfl (fun _ h => h) 3 rfl rfl⟩
def CoC (C D : List CeR) : Prop := D.map (fun c => (c.x, c.S)) = C.map (fun c => (c.x, c.S))
theorem ZgG {C D : List CeR} (h : CoC C D) : D.length = C.length := by
 have q := congrArg List.length h
 simpa using q
theorem ZeS {C D : List CeR} {i : Nat} {sa : Option Addr} {sc : Nat} (h : CoC (C.take i) D) (hi : i < C.length) : CoC (C.take (i + 1)) (D ++ [⟨(C.getD i ce0).x, sa, sc, (C.getD i ce0).S⟩]) := by
 unfold CoC at h ⊢
 rw [Z0K hi, List.map_append, List.map_append, h]; rfl
theorem Z9c (w : World) (p : PrR) (hC : ListAt Z0Z 38 w (.slice p.ca p.C.length p.cc) p.C) (hlC : p.C.length ≤ 64) (hst : ∀ i, i < p.C.length → (stC (p.C.getD i ce0)).ok w) (hlS : ∀ i, i < p.C.length → (p.C.getD i ce0).S.length ≤ 1000) :
  Calls Tryz.prog 47 #[(.agg ⟨([i6 p.r, i6 p.e, u6 p.f, (.slice p.ca p.C.length p.cc), i6 p.sb, i6 p.sm] : LV)⟩)] w fun e w' => ∃ (da : Option Addr) (dc : Nat) (D : List CeR) (B : List Ck), e = .returned (.agg ⟨Z0C ⟨p.r, p.e, p.f, da, dc, p.sb, p.sm, D⟩⟩) ∧ CoC p.C D ∧ (∀ c ∈ D, stC c ∈ B) ∧ (Z04 [Zh 76 38 (.slice da D.length dc) D.length (D.flatMap Z0Z), Z0s B]).ok w' ∧ Upd [] w w' ∧ ∀ q_, (Z04 [Zh 76 38 (.slice da D.length dc) D.length (D.flatMap Z0Z), Z0s B]).fp q_ → w.heap.size ≤ q_ := by
 have H := Sat.start0 w
 refine Za Tryz.func47 rfl 22 rfl kn ?_
 refine zsl <| zy <| zdb (Z9f p) H fun b2 w3 H4 => ?_
 refine kk <| zy <| zda (Z9A) H4 fun b6 w7 H8 => ?_
 refine kk <| Z0G <| wv 3 (.slice none 0 0) <| znt <| Z7 <| zsl <| wv 6 (pt b2 3) <| zw1 7 (.slice p.ca p.C.length p.cc) (H8.cell 1 rfl rfl) <| wv 8 (vi p.C.length) <| wv 9 (vi 0) ?_
 refine znt <| Zc ?_
 have H9 := H8.addNil 76 38
 have H10 := H9.bag0
 refine Zq ([3, 5] ++ List.range' 9 10) (fun F_ W_ m_ => ∃ (i : Nat) (da : Option Addr) (dc : Nat) (D : List CeR) (B : List Ck), F_ 9 = (vi i) ∧ F_ 3 = (.slice da D.length dc) ∧ (i ≤ p.C.length) ∧ (CoC (p.C.take i) D) ∧ (∀ c ∈ D, stC c ∈ B) ∧ Sat w [zR w, Z0 b2 71 (Z9f p), Z0 b6 71 (Z9A), (Zd4 da D dc), Z0s B] W_ ∧ m_ = p.C.length - i) _ ⟨0, none, 0, [], [], (show ((vi 0) : Value) = _ by first | rfl | go_num), (by first | rfl | go_num), (Nat.zero_le _), rfl, (fun c hm => by simp at hm), H10, rfl⟩ ?_
 rintro g11 w12 _ ⟨i, da, dc, D, B, v14, v15, hi, hco, hin, H13, rfl⟩
 refine Ze 9 _ v14 ?_
 refine Ze 3 _ v15 ?_
 have hDl := ZgG hco
 rw [List.length_take] at hDl
 refine zsl <| wv 10 (.bool (decide ((i : Int) < p.C.length))) <| znt <| Z7 ?_
 refine zid (fun b17 g18 => ?_) fun b17 g57 => ?_
 ·refine Zm <| ztn <| Z7 <| Zc <| zsl ?_
  obtain ⟨g20, o21, c22, e23, R24⟩ := SliceOf.atD hC ce0 (show i < p.C.length by omega)
  refine wv 11 (.pointer (some ⟨g20, o21 + ((i : Int)).toNat * 38, none⟩)) ?_ (hr := Zd (E := 76) kr kr kn rfl e23 rfl om om)
  let A0 := Ze3 ((p.C.getD i ce0).x) (p.C.getD i ce0) ((p.C.getD i ce0).S.length)
  refine wv 12 (.agg ⟨A0⟩) ?_ (hr := ZE (vs := A0) rfl kr kr kn (H13.runR 0 rfl (Z0k R24 0 kr (show o21 + ((i : Int)).toNat * 38 = o21 + i * 38 + 0 by omega)) (fun h => h)))
  refine zy <| zda (Z7m) H13 fun b26 w27 H28 => ?_
  refine kk <| zy <| Z1p A0 H28 5 fun w30 H31 => ?_
  refine kk <| znt <| Zl <| wv 13 (.slice da D.length dc) <| zwN 14 A0 (H31.at 5 rfl) <| zy <| zdc 15 (Z9P w30 (p.C.getD i ce0).x (p.C.getD i ce0).sa (p.C.getD i ce0).sc (p.C.getD i ce0).S (H31.roCk 0 rfl (hst i om) (fun _ _ h => h)) (hlS i om)) ?_
  rintro _ w34 ⟨u35, rfl, k36, p37, q38⟩
  have H39 := H31.addU p37 k36 q38
  obtain ⟨a40, c41, rfl⟩ := Z1 (H39.at 6 rfl)
  refine ⟨_, rfl, ?_⟩
  refine kk <| zy <| Z2J 76 38 96 (.agg ⟨(Z7m)⟩) [(0, (.agg ⟨(Z4w ((p.C.getD i ce0).x) a40 (((p.C.getD i ce0).S).length) c41)⟩))] (Z4w ((p.C.getD i ce0).x) a40 (((p.C.getD i ce0).S).length) c41) H39 fun b43 w44 H45 => ?_
  have H46 := H45.ct 7 rfl (Zh 76 38 (.slice (some ⟨b43, 0, none⟩) 1 1) 1 ([(⟨(p.C.getD i ce0).x, a40, c41, (p.C.getD i ce0).S⟩ : CeR)].flatMap Z0Z)) (by rw [(show ((Z4w ((p.C.getD i ce0).x) a40 (((p.C.getD i ce0).S).length) c41) : LV) = [(⟨(p.C.getD i ce0).x, a40, c41, (p.C.getD i ce0).S⟩ : CeR)].flatMap Z0Z by kernel_rfl)])
  refine kk <| zy <| Z0g (T := 67) (e := 76) (size := 38) (bytes := 96) rfl H46 kr 3 7 rfl rfl rfl rfl (Z07 Z0Z Z5R [(⟨(p.C.getD i ce0).x, a40, c41, (p.C.getD i ce0).S⟩ : CeR)]) om om fun v48 w49 H50 => ?_
  have H53 := H50.ct 3 rfl (Zh 76 38 v48 ((D ++ [(⟨(p.C.getD i ce0).x, a40, c41, (p.C.getD i ce0).S⟩ : CeR)]).length) ((D ++ [(⟨(p.C.getD i ce0).x, a40, c41, (p.C.getD i ce0).S⟩ : CeR)]).flatMap Z0Z)) ja
  obtain ⟨a51, c52, rfl⟩ := Z1 (H53.at 3 rfl)
  let A1 : Value := .slice a51 ((D ++ [(⟨(p.C.getD i ce0).x, a40, c41, (p.C.getD i ce0).S⟩ : CeR)]).length) c52
  refine kk <| wv 3 A1 <| Zn <| Z6 <| ztn ?_
  have H54 := (H53.pk [4, 6, 0, 1, 2, 3, 5, 7]).bag
  have H55 := H54.pk [1, 2, 3, 4, 0, 5, 6]
  refine Zl <| zwi 18 ((i : Int) + 1) <| wv 9 (vi ((i : Int) + 1)) <| Zn ?_
  have H56 := H55.pk [0, 1, 2, 3, 4]
  refine Z5 ?_ _ ⟨(i + 1), a51, c52, (D ++ [(⟨(p.C.getD i ce0).x, a40, c41, (p.C.getD i ce0).S⟩ : CeR)]), (stC (⟨(p.C.getD i ce0).x, a40, c41, (p.C.getD i ce0).S⟩ : CeR) :: B), rfl, (show (A1 : Value) = _ by first | rfl | go_num), om, (ZeS hco om), (Zgk hin), H56, rfl⟩ om
  exact zs
 let A2 := Zd8 p da D.length dc
 refine zxb <| ztn <| zsl <| wv 19 (.slice da D.length dc) <| wv 20 (pt b2 3) <| zy <| zds ([(.slice da D.length dc)] : LV) A2 H13 1 fun w60 H61 => ?_
 refine kk <| Z0G <| zwN 21 A2 (H61.at 1 rfl) <| zy <| Z1p A2 H61 2 fun w64 H65 => ?_
 refine kk <| znt <| Zk <| Z5k rfl (ZP (vs := A2) rfl kr kr kn (H65.at 2 rfl) kr) ?_
 exact ⟨da, dc, D, B, rfl, (by rw [List.take_of_length_le om] at hco; exact hco), hin, H65.fn [3, 4], H65.upd 0 rfl [] ne, H65.freshS 0 rfl (fun _ h => h) [3, 4] rfl rfl⟩
def ZaB : Go.Shelf.Ren := ⟨fun | 41 => 52 | n => n, fun | 22 => 84 | 23 => 5 | 4 => 4 | n => n, fun | n => n⟩
theorem ZcE : Go.Proofs.SlLaysE0.n41 Tryz.prog ZaB := {
 mixed := by kernel_rfl,
 f41 := ⟨Tryz.f52.name, by decide, Tryz.func52.trans (congrArg some (by kernel_rfl))⟩,
 t4 := Tryz.underlying4,
 a4 := Tryz.isAgg4,
 z4 := Tryz.sizeOf4,
 v4 := Tryz.zeroValue4,
 t22 := Tryz.underlying84,
 a22 := Tryz.isAgg84,
 z22 := Tryz.sizeOf84,
 v22 := Tryz.zeroValue84 }
theorem Z9X (w : World) (v : Value) (s : List UInt8) (hs : (Zh 5 1 v s.length (s.flatMap Zr)).ok w) (hl : s.length ≤ 1000) : Calls Tryz.prog 52 #[v] w fun e w' => ∃ u, e = .returned u ∧ (Zh 5 1 u s.length (s.flatMap Zr)).ok w' ∧ Upd [] w w' ∧ ∀ b, (Zh 5 1 u s.length (s.flatMap Zr)).fp b → w.heap.size ≤ b := by
 have hfl : (s.flatMap Zr).length = s.length * 1 := Z0T Zr 1 Zs s
 obtain ⟨i, z, _, h1, h2, h3, h4, h5, h6⟩ := Z3z (P := Tryz.prog) (T := 84) (e := 5) (size := 1) (bytes := 1) (by kernel_rfl)
 have hs' := hs
 rcases hs.2 with ⟨rfl, h0⟩ | ⟨g, c, cur, rfl, _⟩
 ·obtain rfl := List.eq_nil_of_length_eq_zero h0
  exact (AnyE.slices_Clone_nil (P := Tryz.prog) ZcE 0 0 w).mono fun e w' ⟨he, hw⟩ => ⟨_, he, World.ownsRow_nil _ 0 _ _, hw ▸ Upd.refl _ _, fun b hb => by simp [Zh, Value.ownBlock] at hb⟩
 ·refine (AnyE.slices_Clone (P := Tryz.prog) ZcE i z 1 1 h1 h2 h3 h4 h5 h6 Tryz.sizeOf5 g 0 s.length c (s.flatMap Zr) w hfl (by unfold maxLen; omega) (by omega) (fun j u hu => by rw [Nat.zero_add]; exact Z2R hs' rfl hu) (fun u hu => List.all_eq_true.1 (Z07 Zr Z10 s) u hu)).mono fun e w' ⟨v', he, hr, _, hb⟩ => ⟨v', he, ?_, Below.upd hb, ?_⟩
  ·refine ⟨hr.1, ?_⟩
   rcases hr.2 with h | ⟨g', cap, cur', e1, _, r⟩
   ·exact .inl h
   ·exact .inr ⟨g', cap, cur', e1, Nat.zero_le _, r⟩
  ·intro b hb2
   rcases hr.2 with ⟨rfl, _⟩ | ⟨g', cap, cur', rfl, hge, _⟩
   ·simp [Zh, Value.ownBlock] at hb2
   ·simp only [Zh, Value.ownBlock, Option.some.injEq] at hb2; omega
def Za4 : Go.Shelf.Ren := ⟨fun | 41 => 56 | n => n, fun | 22 => 87 | 23 => 122 | 4 => 4 | n => n, fun | n => n⟩
theorem Zee : Go.Proofs.SlLaysE0.n41 Tryz.prog Za4 := {
 mixed := by kernel_rfl,
 f41 := ⟨Tryz.f56.name, by decide, Tryz.func56.trans (congrArg some (by kernel_rfl))⟩,
 t4 := Tryz.underlying4,
 a4 := Tryz.isAgg4,
 z4 := Tryz.sizeOf4,
 v4 := Tryz.zeroValue4,
 t22 := Tryz.underlying87,
 a22 := Tryz.isAgg87,
 z22 := Tryz.sizeOf87,
 v22 := Tryz.zeroValue87 }
theorem ZbN (w : World) (v : Value) (s : List Z1r) (hs : (Zh 122 4 v s.length (s.flatMap Z3b)).ok w) (hl : s.length ≤ 1000) : Calls Tryz.prog 56 #[v] w fun e w' => ∃ u, e = .returned u ∧ (Zh 122 4 u s.length (s.flatMap Z3b)).ok w' ∧ Upd [] w w' ∧ ∀ b, (Zh 122 4 u s.length (s.flatMap Z3b)).fp b → w.heap.size ≤ b := by
 have hfl : (s.flatMap Z3b).length = s.length * 4 := Z0T Z3b 4 Z8O s
 obtain ⟨i, z, _, h1, h2, h3, h4, h5, h6⟩ := Z3z (P := Tryz.prog) (T := 87) (e := 122) (size := 4) (bytes := 32) (by kernel_rfl)
 have hs' := hs
 rcases hs.2 with ⟨rfl, h0⟩ | ⟨g, c, cur, rfl, _⟩
 ·obtain rfl := List.eq_nil_of_length_eq_zero h0
  exact (AnyE.slices_Clone_nil (P := Tryz.prog) Zee 0 0 w).mono fun e w' ⟨he, hw⟩ => ⟨_, he, World.ownsRow_nil _ 0 _ _, hw ▸ Upd.refl _ _, fun b hb => by simp [Zh, Value.ownBlock] at hb⟩
 ·refine (AnyE.slices_Clone (P := Tryz.prog) Zee i z 4 32 h1 h2 h3 h4 h5 h6 Tryz.sizeOf122 g 0 s.length c (s.flatMap Z3b) w hfl (by unfold maxLen; omega) (by omega) (fun j u hu => by rw [Nat.zero_add]; exact Z2R hs' rfl hu) (fun u hu => List.all_eq_true.1 (Z07 Z3b Z8M s) u hu)).mono fun e w' ⟨v', he, hr, _, hb⟩ => ⟨v', he, ?_, Below.upd hb, ?_⟩
  ·refine ⟨hr.1, ?_⟩
   rcases hr.2 with h | ⟨g', cap, cur', e1, _, r⟩
   ·exact .inl h
   ·exact .inr ⟨g', cap, cur', e1, Nat.zero_le _, r⟩
  ·intro b hb2
   rcases hr.2 with ⟨rfl, _⟩ | ⟨g', cap, cur', rfl, hge, _⟩
   ·simp [Zh, Value.ownBlock] at hb2
   ·simp only [Zh, Value.ownBlock, Option.some.injEq] at hb2; omega
section
variable {w0 w : World} {L1 L2 R : List Ck}
theorem Sat.bagApp (H : Sat w0 (Z0s L1 :: Z0s L2 :: R) w) : Sat w0 (Z0s (L1 ++ L2) :: R) w := by
 have h1 := List.pairwise_cons.1 H.dis
 have h2 := List.pairwise_cons.1 h1.2
 refine ⟨H.ext, fun C hC => ?_, List.pairwise_cons.2 ⟨fun C hC b hb hc => ?_, h2.2⟩⟩
 ·rcases List.mem_cons.1 hC with rfl | hC
  ·intro B hB
   rcases List.mem_append.1 hB with hB | hB
   ·exact (show (Z0s L1).ok w from H.all _ (by simp)) B hB
   ·exact (show (Z0s L2).ok w from H.all _ (by simp)) B hB
  ·exact H.all _ (by simp [hC])
 ·obtain ⟨B, hB, hf⟩ := hb
  rcases List.mem_append.1 hB with hB | hB
  ·exact h1.1 C (by simp [hC]) b ⟨B, hB, hf⟩ hc
  ·exact h2.1 C hC b ⟨B, hB, hf⟩ hc
end
theorem Z60 {α : Type} {enc : α → List Value} {sz e c m : Nat} {a : Option Addr} {D : List α} {w : World} (hs : ∀ x, (enc x).length = sz) (h : (Zh e sz (.slice a D.length c) D.length (D.flatMap enc)).ok w) : (Zh e sz (.slice a (D.take m).length c) (D.take m).length ((D.take m).flatMap enc)).ok w := by
 have hle : (D.take m).length ≤ D.length := by rw [List.length_take]; omega
 refine ⟨Z0T enc sz hs _, ?_⟩
 rcases h.2 with ⟨hv, h0⟩ | ⟨g, cap, cur, hv, hb, hg, hn, hm, hc, ht⟩
 ·simp only [Value.slice.injEq] at hv
  obtain ⟨rfl, _, rfl⟩ := hv
  have : (D.take m).length = 0 := by omega
  exact .inl ⟨by rw [this], this⟩
 ·simp only [Value.slice.injEq] at hv
  obtain ⟨rfl, _, rfl⟩ := hv
  refine .inr ⟨g, c, cur, rfl, hb, hg, by omega, hm, hc, ?_⟩
  have hk : (D.take m).length * sz ≤ D.length * sz := Nat.mul_le_mul_right _ hle
  have e1 : cur.toList.take ((D.take m).length * sz) = (D.flatMap enc).take ((D.take m).length * sz) := by
   rw [← ht, List.take_take, Nat.min_eq_left hk]
  rw [e1]
  have e2 : D.flatMap enc = (D.take m).flatMap enc ++ (D.drop m).flatMap enc := by rw [← List.flatMap_append, List.take_append_drop]
  rw [e2, ← Z0T enc sz hs (D.take m), List.take_left]
def Zba (p : PrR) : Int × Int × Int × Int × Int × List (Zg × List Z9) := (p.r, p.e, p.f, p.sb, p.sm, p.C.map fun c => (c.x, c.S))
def Zfm (o : OpR) : Int × List UInt8 × Hash := (o.i, o.P, o.h)
def ZgO (t : TbR) : Int × List Z1r := (t.i, t.D)
def ZgN (A B : List PrR) : Prop := B.map Zba = A.map Zba
def CoOs (A B : List OpR) : Prop := B.map Zfm = A.map Zfm
def CoTs (A B : List TbR) : Prop := B.map ZgO = A.map ZgO
section
variable {β γ : Type} {key : β → γ} {A B : List β} {x y : β} {i : Nat}
theorem Z49 (h : B.map key = A.map key) : B.length = A.length := by simpa using congrArg List.length h
theorem Z8d (h : B.map key = (A.take i).map key) (hx : A[i]? = some x) (hk : key y = key x) : (B ++ [y]).map key = (A.take (i + 1)).map key := by
 rw [List.take_add_one, hx, Option.toList_some, List.map_append, List.map_append, h, List.map_singleton, List.map_singleton, hk]
end
theorem Zgh {p : PrR} {da : Option Addr} {dc : Nat} {D : List CeR} (h : CoC p.C D) : Zba ⟨p.r, p.e, p.f, da, dc, p.sb, p.sm, D⟩ = Zba p := by
 unfold CoC at h; unfold Zba; simp only [h]
structure PrK (w : World) (p : PrR) : Prop where
 at_ : ListAt Z0Z 38 w (.slice p.ca p.C.length p.cc) p.C
 len : p.C.length ≤ 64
 st : ∀ i, i < p.C.length → (stC (p.C.getD i ce0)).ok w
 sl : ∀ i, i < p.C.length → (p.C.getD i ce0).S.length ≤ 1000
structure OpK (w : World) (o : OpR) : Prop where
 ok : (opC o).ok w
 len : o.P.length ≤ 1000
structure TbK (w : World) (t : TbR) : Prop where
 ok : (tbC t).ok w
 len : t.D.length ≤ 1000
theorem OpK.list {w : World} {o : OpR} (h : OpK w o) : ListAt Zr 1 w (.slice o.pa o.P.length o.pc) o.P := ListAt.row Zs (by decide) h.ok
theorem Z9u {L : List OpR} {i : Nat} (h : i < L.length) : L.getD i op0 ∈ L := by
 rw [List.getD_eq_getElem?_getD, List.getElem?_eq_getElem h]; exact List.getElem_mem h
end Go.Proofs.YtenihpghfdcpkaaGreat
