/- WHAT IS PROVED: contracts and plain laws of FrameU, OpenC10, OpenP12, EntL, LogM12, LaidO, FstO, SortO12. Conditions: stated with each. -/
import Derived.Test.YtenihpghfdcpkaaGreatPA05
import Derived.Test.YtenihpghfdcpkaaGreatPA06
import Derived.Test.YtenihpghfdcpkaaGreatPA10
import Derived.Test.YtenihpghfdcpkaaGreatPA11
import Derived.Test.YtenihpghfdcpkaaGreatPA16
import Derived.Test.YtenihpghfdcpkaaGreatPA17
import Derived.Test.YtenihpghfdcpkaaGreatPA18
import Derived.Test.YtenihpghfdcpkaaGreatPA22
import Derived.Test.YtenihpghfdcpkaaGreatPA26
set_option maxHeartbeats 4000000
set_option maxRecDepth 100000
namespace Go.Proofs.YtenihpghfdcpkaaGreat
open Go.ChangeShapes Go.WideShapes Go.ChangeAt Go.RowKit Go.Deep
section
variable {H : Type} {enc : TypeId × Value → H} {P : Program} {W : World}
theorem Zci {z : Int} (h : (Lit.int .u64 z).wf = true) : 0 ≤ z ∧ z ≤ 18446744073709551615 := by
 simpa [Lit.wf, IntKind.min, IntKind.max, IntKind.signed, IntKind.bits] using h
def ZdI (w : World) (a : Addr) (x : Int) : Prop := w.cell? a = some (.int .u64 x)
theorem Zd9 {t e : TypeId} (ht : P.underlying t = some (.slice e)) (he : P.underlying e = some (.int .u64)) (hc : P.cellsOf e = 1) {v : Value} {d : DataW H} {ps : List MemPlace} (hv : ∃ a len cap, v = .slice a len cap)
  (h : DataW.Trod enc P W 0 (fun _ => true) true t v d ps) : ∃ xs, (∀ x ∈ xs, 0 ≤ x ∧ x ≤ 18446744073709551615) ∧ ListAt Z4j 1 W v xs := by
 obtain ⟨xs, hx⟩ := Z3G (R := fun w a x => ZdI w a x ∧ 0 ≤ x ∧ x ≤ 18446744073709551615) ht hc (by omega) hv h (fun cs n y b off hl hcs hy => by
  obtain ⟨z, rfl, hz⟩ := Z1r he hy
  exact ⟨z, hcs 0 (by simp), Zci hz⟩)
 refine ⟨xs, fun n hn => ?_, SliceOf.imp hx fun a x h j u hj => ?_⟩
 ·obtain ⟨i, hi, rfl⟩ := List.mem_iff_getElem.1 hn
  obtain ⟨b, off, cap, _, _, hall⟩ := hx.some (by omega)
  exact (hall i hi).2
 ·match j, hj with
  | 0, hj =>
   simp only [Z4j, List.getElem?_cons_zero, Option.some.injEq] at hj
   subst hj
   have := h.1
   obtain ⟨b, o, s⟩ := a
   unfold ZdI at this
   have e : (⟨b, o, s⟩ : Addr).add 0 = ⟨b, o, s⟩ := by cases s <;> simp [Addr.add]
   rw [e]; exact this
  | _ + 1, hj => simp [Z4j] at hj
end
section
variable {H : Type} {enc : TypeId × Value → H} {W : World}
theorem Z72 {P : Program} {t : TypeId} {fs : Array Field} {n : Nat} {cs : List Value} {y : DataW H × List MemPlace} (ht : P.underlying t = some (.struct fs)) (h : DataW.trod enc P W 0 (fun _ => true) true n t cs = some y) :
  cs.length = P.cellsOf t ∧ ∃ m, ∀ (i : Nat) (g : Field), fs[i]? = some g → ∃ z, DataW.trod enc P W 0 (fun _ => true) true m g.type ((cs.drop g.offset).take (P.cellsOf g.type)) = some z := by
 obtain ⟨xs, m, _, _, hl, hx, hf⟩ := DataW.trod_struct ht h
 refine ⟨hl, m, fun i g hg => ?_⟩
 have h1 := hf i g hg
 have hi : i < xs.length := by
  rw [hx]
  obtain ⟨h, _⟩ := Array.getElem?_eq_some_iff.1 hg
  exact h
 rw [List.getElem?_eq_getElem hi] at h1
 exact ⟨_, h1⟩
theorem Z1M {cs A rest : List Value} {o n : Nat} (h : (cs.drop o).take n = A) (hr : cs.drop (o + n) = rest) : cs.drop o = A ++ rest := by
 rw [← h, ← hr, ← List.drop_drop, List.take_append_drop]
theorem ZaV {cs : List Value} {n : Nat} (h : cs.length = n) : cs.drop n = [] := by rw [← h, List.drop_length]
theorem Zbh {t i : TypeId} {f g : Field} {n : Nat} {cs : List Value} {y : DataW H × List MemPlace} (ht : Tryz.prog.underlying t = some (.struct #[f, g])) (hi : Tryz.prog.underlying i = some (.int .i64)) (hf : f.type = i) (hg : g.type = i) (of : f.offset = 0) (og : g.offset = 1) (hc : Tryz.prog.cellsOf i = 1) (hn : Tryz.prog.cellsOf t = 2)
  (h : DataW.trod enc Tryz.prog W 0 (fun _ => true) true n t cs = some y) : ∃ a b : Int, cs = [.int .i64 a, .int .i64 b] ∧ (-9223372036854775808 ≤ a ∧ a ≤ 9223372036854775807) ∧ (-9223372036854775808 ≤ b ∧ b ≤ 9223372036854775807) := by
 obtain ⟨hl, m, hq⟩ := Z72 ht h
 obtain ⟨z0, h0⟩ := hq 0 _ rfl
 obtain ⟨z1, h1⟩ := hq 1 _ rfl
 simp only [List.getElem_toArray, List.getElem_cons_zero, List.getElem_cons_succ, hf, hg, of, og, hc] at h0 h1
 obtain ⟨a, e0, w0⟩ := Z1r (k := .i64) hi h0
 obtain ⟨b, e1, w1⟩ := Z1r (k := .i64) hi h1
 refine ⟨a, b, ?_, Zav w0, Zav w1⟩
 have := Z1M e0 (Z1M e1 (ZaV (hl.trans hn)))
 simpa using this
theorem Zbn {n : Nat} {cs : List Value} {y : DataW H × List MemPlace} (h : DataW.trod enc Tryz.prog W 0 (fun _ => true) true n 59 cs = some y) : ∃ a b : Int, cs = [.int .i64 a, .int .i64 b] ∧ (-9223372036854775808 ≤ a ∧ a ≤ 9223372036854775807) ∧ (-9223372036854775808 ≤ b ∧ b ≤ 9223372036854775807) :=
 Zbh Tryz.underlying59 Tryz.underlying3 rfl rfl rfl rfl (by kernel_rfl) (by kernel_rfl) h
theorem agg_of {v : Value} {cs : List Value} (hv : ∃ ws, v = .agg ws) (h : v.cells.toList = cs) : v = .agg ⟨cs⟩ := by
 obtain ⟨⟨l⟩, rfl⟩ := hv
 simp only [Value.cells] at h; rw [h]
end
section
variable {H : Type} {enc : TypeId × Value → H} {W : World}
end
end Go.Proofs.YtenihpghfdcpkaaGreat
namespace Go.Proofs.YtenihpghfdcpkaaGreat
open Go.RowKit
section
variable {L : List Ck} {A : Ck} {p : PrR} {x : CeR} {C : List CeR} {D : List PrR} {w : World} {a b : Int} {S : List Z4}
theorem Zag {last tm : Int} {lg : NmD → Bool} {Z : List CeR} {O : List Z1H} (hz : ∀ c ∈ Z, Ze4 c) (h : O.Perm ((Z7i last tm lg Z).map (·.2))) : O.length ≤ 12 := by
 rw [h.length_eq, List.length_map]; exact (Z82 hz).len
end
def nmC (c : CeR) : NmD := ⟨c.x.cl, c.x.seq⟩
def nmM (Z : List CeR) : List (NmD × Bool) := Z.foldl (fun M c => Z2j M (nmC c) true) []
section
variable {last tm : Int} {lg : NmD → Bool} {Z A C : List CeR} {O : List Z1H} {c : CeR} {M M' X : List (NmD × Bool)} {k j : Nat} {a : NmD} {e : Z1H}
theorem Z8N (h : ∀ c ∈ Z, Z51 last tm lg (Z2k c) = false) : (Z7i last tm lg Z).map (·.1) = (nmM Z).map (·.1) := by
 have key : ∀ (L : List CeR) (M : Zan) (N : List (NmD × Bool)), M.map (·.1) = N.map (·.1) → (∀ c ∈ L, Z51 last tm lg (Z2k c) = false) → (L.foldl (fun M c => Z52 last tm lg M (Z2k c)) M).map (·.1) = (L.foldl (fun M c => Z2j M (nmC c) true) N).map (·.1) := by
  intro L
  induction L with
  | nil => intro M N h _; exact h
  | cons c L ih =>
   intro M N h hs
   rw [List.foldl_cons, List.foldl_cons]
   refine ih _ _ ?_ fun d hd => hs d (by simp [hd])
   have hsc := hs c (by simp)
   have hn : Z6a (Z2k c) = nmC c := rfl
   cases hq : Zp M (Z6a (Z2k c)) with
   | none => rw [Z6M hsc hq, Z4A, Z4A, hn, h]
   | some v =>
    have hm : nmC c ∈ M.map (·.1) := by
     have := Zdd hq
     rw [← hn]; exact List.mem_map.2 ⟨_, this, rfl⟩
    rw [Z70 hsc hq, Z4A, ← h, if_pos hm]
    split
    ·rw [Z4A, hn, if_pos hm]
    ·rfl
 exact key Z [] [] rfl h
theorem ZdW : ∀ y ∈ nmM Z, y.2 = true := by
 have key : ∀ (L : List CeR) (M : List (NmD × Bool)), (∀ y ∈ M, y.2 = true) → ∀ y ∈ L.foldl (fun M c => Z2j M (nmC c) true) M, y.2 = true := by
  intro L
  induction L with
  | nil => intro M h; exact h
  | cons d L ih =>
   intro M h
   refine ih _ fun y hy => ?_
   rcases Z7S hy with rfl | hy
   ·rfl
   ·exact h y hy
 exact key Z [] (by simp)
structure DueI (O : List Z1H) (j : Nat) (X : List (NmD × Bool)) : Prop where
 keys : (X.map (·.1)).Perm ((O.drop j).map Z6a)
 nd : (X.map (·.1)).Nodup
 tr : ∀ y ∈ X, y.2 = true
theorem DueI.start (hsm : ∀ c ∈ Z, Ze4 c) (hO : O.Perm ((Z7i last tm lg Z).map (·.2))) (h : ∀ c ∈ Z, Z51 last tm lg (Z2k c) = false) : DueI O 0 (nmM Z) := by
 have hok := Z82 (last := last) (tm := tm) (lg := lg) hsm
 have hk := Z8N h
 have he : (Z7i last tm lg Z).map (·.1) = ((Z7i last tm lg Z).map (·.2)).map Z6a := by
  rw [List.map_map]
  exact List.map_congr_left fun x hx => hok.nm x hx
 refine ⟨?_, by rw [← hk]; exact hok.nd, ZdW⟩
 rw [← hk, he, List.drop_zero]
 exact (hO.map Z6a).symm
theorem DueI.len (hsm : ∀ c ∈ Z, Ze4 c) (hO : O.Perm ((Z7i last tm lg Z).map (·.2))) (h : ∀ c ∈ Z, Z51 last tm lg (Z2k c) = false) : O.length = (nmM Z).length := by
 have hk := congrArg List.length (Z8N h)
 simp only [List.length_map] at hk
 rw [hO.length_eq, List.length_map, hk]
theorem ZaE {tm' : Int} (h : ∀ c ∈ Z, Zj c.S ≤ tm) (hO : O.Perm ((Z7i tm tm' lg Z).map (·.2))) : O = [] := by
 rw [Zed fun c hc => Zfb (decide_eq_true (h c hc))] at hO
 exact List.Perm.eq_nil (by simpa using hO)
theorem Zej (hsm : ∀ c ∈ Z, Ze4 c) (hO : O.Perm ((Z7i last tm lg Z).map (·.2))) : (O.map Z6a).Nodup := by
 have hok := Z82 (last := last) (tm := tm) (lg := lg) hsm
 have he : (Z7i last tm lg Z).map (·.1) = ((Z7i last tm lg Z).map (·.2)).map Z6a := by
  rw [List.map_map]
  exact List.map_congr_left fun x hx => hok.nm x hx
 refine ((hO.map Z6a).nodup_iff).2 ?_
 rw [← he]; exact hok.nd
theorem Zfw {x y : Z1H} {i q : Nat} (hs : O.Pairwise fun a b => ¬ Zc1 b a) (hx : O[i]? = some x) (hy : O[q]? = some y) (hq : q < i) : decide (x.t < y.t) = false := by
 obtain ⟨h1, e1⟩ := List.getElem?_eq_some_iff.1 hx
 obtain ⟨h2, e2⟩ := List.getElem?_eq_some_iff.1 hy
 have := List.pairwise_iff_getElem.1 hs q i h2 h1 hq
 rw [e1, e2] at this
 unfold Zc1 at this
 exact decide_eq_false fun h => this (.inl h)
theorem Zfs {x y : Z1H} {i q : Nat} (hn : (O.map Z6a).Nodup) (hx : O[i]? = some x) (hy : O[q]? = some y) (hq : q < i) : decide (x.cl = y.cl ∧ x.sq = y.sq) = false := by
 obtain ⟨h1, e1⟩ := List.getElem?_eq_some_iff.1 hx
 obtain ⟨h2, e2⟩ := List.getElem?_eq_some_iff.1 hy
 refine decide_eq_false fun h => ?_
 have := List.pairwise_iff_getElem.1 hn q i (by simpa using h2) (by simpa using h1) hq
 simp only [List.getElem_map, e1, e2] at this
 apply this
 show (⟨y.cl, y.sq⟩ : NmD) = ⟨x.cl, x.sq⟩
 rw [h.1, h.2]
end
end Go.Proofs.YtenihpghfdcpkaaGreat
namespace Go.Proofs.YtenihpghfdcpkaaGreat
open Go.RowKit Go.Shelf
def sortO_ren : Go.Shelf.Ren := ⟨fun | 6 => 95 | 15 => 102 | 14 => 123 | 28 => 136 | 29 => 137 | 20 => 161 | 21 => 162 | 22 => 163 | 23 => 164 | 24 => 165 | 25 => 166 | 26 => 167 | 27 => 168 | 46 => 198 | 47 => 182 | 48 => 183 | 49 => 199 | 50 => 200 | 57 => 217 | n => n, fun | 22 => 42 | 24 => 86 | 25 => 186 | 3 => 3 | 39 => 108 | 0 => 0 | 53 => 198 | 55 => 25 | 4 => 4 | 46 => 222 | 45 => 221 | 50 => 226 | 5 => 5 | 9 => 9 | 66 => 257 | 70 => 261 | 76 => 281 | 77 => 282 | n => n, fun | n => n⟩
theorem sortO : Go.Proofs.SlLaysF0.n6 Tryz.prog sortO_ren := {
 mixed := by kernel_rfl,
 f6 := ⟨Tryz.f95.name, by decide, Tryz.func95.trans (congrArg some (by kernel_rfl))⟩,
 f14 := ⟨Tryz.f123.name, by decide, Tryz.func123.trans (congrArg some (by kernel_rfl))⟩,
 f15 := Tryz.func102.trans (congrArg some (by kernel_rfl)),
 f20 := ⟨Tryz.f161.name, by decide, Tryz.func161.trans (congrArg some (by kernel_rfl))⟩,
 f21 := ⟨Tryz.f162.name, by decide, Tryz.func162.trans (congrArg some (by kernel_rfl))⟩,
 f22 := ⟨Tryz.f163.name, by decide, Tryz.func163.trans (congrArg some (by kernel_rfl))⟩,
 f23 := ⟨Tryz.f164.name, by decide, Tryz.func164.trans (congrArg some (by kernel_rfl))⟩,
 f24 := ⟨Tryz.f165.name, by decide, Tryz.func165.trans (congrArg some (by kernel_rfl))⟩,
 f25 := ⟨Tryz.f166.name, by decide, Tryz.func166.trans (congrArg some (by kernel_rfl))⟩,
 f26 := ⟨Tryz.f167.name, by decide, Tryz.func167.trans (congrArg some (by kernel_rfl))⟩,
 f27 := ⟨Tryz.f168.name, by decide, Tryz.func168.trans (congrArg some (by kernel_rfl))⟩,
 f28 := Tryz.func136.trans (congrArg some (by kernel_rfl)),
 f29 := Tryz.func137.trans (congrArg some (by kernel_rfl)),
 f46 := ⟨Tryz.f198.name, by decide, Tryz.func198.trans (congrArg some (by kernel_rfl))⟩,
 f47 := Tryz.func182.trans (congrArg some (by kernel_rfl)),
 f48 := Tryz.func183.trans (congrArg some (by kernel_rfl)),
 f49 := ⟨Tryz.f199.name, by decide, Tryz.func199.trans (congrArg some (by kernel_rfl))⟩,
 f50 := ⟨Tryz.f200.name, by decide, Tryz.func200.trans (congrArg some (by kernel_rfl))⟩,
 f57 := ⟨Tryz.f217.name, by decide, Tryz.func217.trans (congrArg some (by kernel_rfl))⟩,
 t0 := Tryz.underlying0,
 a0 := Tryz.isAgg0,
 z0 := Tryz.sizeOf0,
 v0 := Tryz.zeroValue0,
 t3 := Tryz.underlying3,
 a3 := Tryz.isAgg3,
 z3 := Tryz.sizeOf3,
 v3 := Tryz.zeroValue3,
 t4 := Tryz.underlying4,
 a4 := Tryz.isAgg4,
 z4 := Tryz.sizeOf4,
 v4 := Tryz.zeroValue4,
 t5 := Tryz.underlying5,
 a5 := Tryz.isAgg5,
 z5 := Tryz.sizeOf5,
 v5 := Tryz.zeroValue5,
 t9 := Tryz.underlying9,
 a9 := Tryz.isAgg9,
 z9 := Tryz.sizeOf9,
 v9 := Tryz.zeroValue9,
 t22 := Tryz.underlying42,
 a22 := Tryz.isAgg42,
 z22 := Tryz.sizeOf42,
 v22 := Tryz.zeroValue42,
 t25 := Tryz.underlying186,
 a25 := Tryz.isAgg186,
 z25 := Tryz.sizeOf186,
 v25 := Tryz.zeroValue186,
 t39 := Tryz.underlying108,
 a39 := Tryz.isAgg108,
 z39 := Tryz.sizeOf108,
 v39 := Tryz.zeroValue108,
 t45 := Tryz.underlying221,
 a45 := Tryz.isAgg221,
 z45 := Tryz.sizeOf221,
 v45 := Tryz.zeroValue221,
 t46 := Tryz.underlying222,
 a46 := Tryz.isAgg222,
 z46 := Tryz.sizeOf222,
 v46 := Tryz.zeroValue222,
 t50 := Tryz.underlying226,
 a50 := Tryz.isAgg226,
 z50 := Tryz.sizeOf226,
 v50 := Tryz.zeroValue226,
 t53 := Tryz.underlying198,
 a53 := Tryz.isAgg198,
 z53 := Tryz.sizeOf198,
 v53 := Tryz.zeroValue198,
 t55 := Tryz.underlying25,
 a55 := Tryz.isAgg25,
 z55 := Tryz.sizeOf25,
 v55 := Tryz.zeroValue25,
 t66 := Tryz.underlying257,
 a66 := Tryz.isAgg257,
 z66 := Tryz.sizeOf257,
 v66 := Tryz.zeroValue257,
 t70 := Tryz.underlying261,
 a70 := Tryz.isAgg261,
 z70 := Tryz.sizeOf261,
 v70 := Tryz.zeroValue261,
 t76 := Tryz.underlying281,
 a76 := Tryz.isAgg281,
 z76 := Tryz.sizeOf281,
 v76 := Tryz.zeroValue281,
 t77 := Tryz.underlying282,
 a77 := Tryz.isAgg282,
 z77 := Tryz.sizeOf282,
 v77 := Tryz.zeroValue282 }
end Go.Proofs.YtenihpghfdcpkaaGreat
namespace Go.Proofs.YtenihpghfdcpkaaGreat
open Go.RowKit
abbrev Z4c (p0 : OpR) : List Value := ([(.int .i64 p0.i), (.slice p0.pa p0.P.length p0.pc)] : List Value) ++ hc p0.h
theorem Z7D (w : World) (p : OpR) :
  Calls Tryz.prog 51 #[(.agg ⟨(([(.int .i64 (p.i)), ((.slice p.pa p.P.length p.pc))] : List Value) ++ hc p.h)⟩)] w fun e w' => e = .returned (.int .i64 p.i) ∧ Upd [] w w' ∧ Gr w w' := by
 have H := Sat.start0 w
 refine Z8 Tryz.func51 rfl 5 rfl kn ?_
 refine zsl <| zy <| Z3P (vs := (Z4c p)) rfl H rfl rfl fun b2 w3 H4 g5 => ?_
 refine kk <| wv 2 (vi 0) <| Z0y <| wv 3 (pt b2 0) <| zw1 4 (vi p.i) (H4.cell 1 rfl kr) <| wv 2 (vi p.i) <| znt <| Zq <| ze1 (vi p.i) ?_
 exact ⟨rfl, H4.upd 0 rfl [] ne, g5⟩
theorem Z9x (w : World) (x y : OpR) (fb : Nat) (hfb : (Z0 fb 133 [.func (.func 51) #[] #[]]).ok w) :
  Calls Tryz.prog 96 #[(.agg ⟨(([(.int .i64 (x.i)), ((.slice x.pa x.P.length x.pc))] : List Value) ++ hc x.h)⟩), (.agg ⟨(([(.int .i64 (y.i)), ((.slice y.pa y.P.length y.pc))] : List Value) ++ hc y.h)⟩), (.pointer (some ⟨fb, 0, none⟩))] w fun e w' => e = .returned (.int .i64 (Z2Q x.i y.i)) ∧ Upd [] w w' ∧ Gr w w' := by
 have H := Sat.start0 w
 refine Z8 Tryz.func96 rfl 13 rfl kn ?_
 refine zsl <| zy <| Z3P (vs := (Z4c x)) rfl H rfl rfl fun b2 w3 H4 g5 => ?_
 refine kk <| zy <| Z3P (vs := (Z4c y)) rfl H4 rfl rfl fun b7 w8 H9 g10 => ?_
 have gr11 := g5.trans g10
 refine kk <| wv 5 (vi 0) <| znt <| Z5 <| Z5z H9 [Z3 w (fun _ => False), Z0 b2 86 (Z4c x), Z0 b7 86 (Z4c y)] 8 rfl kr (fun Hx => (Hx.pk [0, 1, 2])) fun w12 H13 S14 g15 => ?_
 have gr16 := gr11.trans g15
 refine hv0 0 S14 6 (.func (.func 51) #[] #[]) ?_ (he := fun _ H' => (zl1 (H'.roCell 0 rfl hfb (fun h => h) rfl)))
 refine hv0 1 S14 7 (.agg ⟨(Z4c x)⟩) ?_ (he := fun _ H' => (zlN (vs := (Z4c x)) (H'.at 1 rfl)))
 refine hv0 3 S14 9 (.func (.func 51) #[] #[]) ?_ (he := fun _ H' => (zl1 (H'.roCell 0 rfl hfb (fun h => h) rfl)))
 refine hv0 4 S14 10 (.agg ⟨(Z4c y)⟩) ?_ (he := fun _ H' => (zlN (vs := (Z4c y)) (H'.at 2 rfl)))
 refine zhy 2 ?_
 refine zdc 8 (Z7D w12 x) ?_
 rintro _ w18 ⟨rfl, u20, g21⟩
 have H19 := H13.keepU u20
 refine ⟨_, rfl, ?_⟩
 have gr22 := gr16.trans g21
 have S23 := H19.pk [0, 1, 2]
 refine kh S23 <| zhy 5 ?_
 refine zdc 11 (Z7D w18 y) ?_
 rintro _ w25 ⟨rfl, u27, g28⟩
 have H26 := H19.keepU u27
 refine ⟨_, rfl, ?_⟩
 have gr29 := gr22.trans g28
 have S30 := H26.pk [0, 1, 2]
 refine kh S30 <| zhy 6 ?_
 refine zdc 12 (Z3V x.i y.i w25) ?_
 rintro _ w32 ⟨rfl, hw32⟩
 obtain rfl := hw32.symm
 refine ⟨_, rfl, ?_⟩
 have S33 := H26.pk [0, 1, 2]
 refine kh S33 <| hv0 7 S33 5 (vi (Z2Q x.i y.i)) <| zhf <| ztn <| Zq <| ze1 (vi (Z2Q x.i y.i)) ?_
 exact ⟨rfl, H26.upd 0 rfl [] ne, gr29⟩
end Go.Proofs.YtenihpghfdcpkaaGreat
namespace Go.Proofs.YtenihpghfdcpkaaGreat
open Go.RowKit Go.Shelf Go.Sort
instance : Inhabited OpR := ⟨op0⟩
def ZcC (x y : OpR) : Int := Z2Q x.i y.i
def ZdK (x y : OpR) : Prop := x.i < y.i
instance (x y : OpR) : Decidable (ZdK x y) := by unfold ZdK; exact inferInstance
theorem Z50 (x y : OpR) : ltOf ZcC x y = decide (ZdK x y) := by
 unfold ltOf
 refine decide_eq_decide.2 ?_
 unfold ZcC ZdK
 rcases Z3c x.i y.i with ⟨h1, e1⟩ | ⟨h1, e1⟩ | ⟨h1, e1⟩ <;> rw [e1] <;>
  first | exact iff_of_true (by decide) (by omega) | exact iff_of_false (by decide) (by omega)
theorem ZcX : SWO (ltOf ZcC) := by
 refine ⟨fun x => ?_, fun x y z h1 h2 => ?_, fun x y z h1 h2 => ?_⟩
 ·rw [Z50]; exact decide_eq_false (by unfold ZdK; omega)
 ·rw [Z50] at *
  have := of_decide_eq_true h1; have := of_decide_eq_true h2
  unfold ZdK at *
  exact decide_eq_true (by omega)
 ·rw [Z50] at *
  have := of_decide_eq_false h1; have := of_decide_eq_false h2
  unfold ZdK at *
  exact decide_eq_false (by omega)
theorem Z97 (blk off size : Nat) (w : World) {fb : Nat} (hne : fb ≠ blk) (hfb : (Z0 fb 133 [.func (.func 51) #[] #[]]).ok w) : CmpLays Tryz.prog 96 #[.pointer (some ⟨fb, 0, none⟩)] Z0L 34 ZcC blk off size w := fun m os dk _ x y =>
 (Z9x (sortWorldK Z0L 34 w blk off m dk os) x y fb ((Z0 fb _ _).stay hfb fun b hb => by
  rw [show b = fb from hb]
  have hlt := (Z0 fb _ _).lt hfb fb rfl
  unfold sortWorldK putRowK putRow mapBlock grow Sort.ahead
  simp only [Array.getElem?_append, Array.size_modify, hlt, if_true, Array.getElem?_modify]
  rw [if_neg (fun e => hne e.symm)])).mono fun _ _ h => ⟨h.1, h.2.2⟩
theorem Zbe (w : World) (g c : Nat) (D : List OpR) (hv : (Zc 86 34 (.slice (some ⟨g, 0, none⟩) D.length c) D.length (D.flatMap Z0L)).ok w) (h12 : D.length ≤ 12) (fb : Nat) (hne : fb ≠ g) (hfb : (Z0 fb 133 [.func (.func 51) #[] #[]]).ok w) :
  Calls Tryz.prog 95 #[.slice (some ⟨g, 0, none⟩) D.length c, .func (.func 96) #[] #[.pointer (some ⟨fb, 0, none⟩)]] w fun e w' => e = .returned (.tuple #[]) ∧ ∃ D' : List OpR, D'.Perm D ∧ (D'.Pairwise fun a b => ¬ ZdK b a) ∧ (Zc 86 34 (.slice (some ⟨g, 0, none⟩) D.length c) D.length (D'.flatMap Z0L)).ok w' ∧ Upd [g] w w' := by
 obtain ⟨A, rfl⟩ : ∃ A : List OpR, A = D := ⟨D, rfl⟩
 have hg : g < w.heap.size := (Zc _ _ _ _ _).lt hv g rfl
 obtain ⟨cur, hb, hnc, hcm, hcs, htk⟩ : ∃ cur, w.heap[g]? = some (.cells cur 86 (0, 0)) ∧ A.length ≤ c ∧ c ≤ maxLen ∧ cur.size = c * 34 ∧ cur.toList.take (A.length * 34) = A.flatMap Z0L := by
  rcases hv.2 with ⟨h, _⟩ | ⟨g', c', cur, h, _, h1, h2, h3, h4, h5⟩
  ·cases h
  ·simp only [Value.slice.injEq, Option.some.injEq, Addr.mk.injEq] at h
   obtain ⟨⟨rfl, _⟩, _, rfl⟩ := h
   exact ⟨cur, h1, h2, h3, h4, h5⟩
 have hH : HoldsK Z0L 34 w g 0 A.toArray := fun j hj => by
  have hj' : j < A.length * 34 := by simpa using hj
  have hq : j / 34 < A.length := (Nat.div_lt_iff_lt_mul (by omega)).2 hj'
  refine ⟨?_, ?_⟩
  ·rw [get_flatK _ _ _ _ (by simpa using hj')]
   have hx : A.toArray[j / 34]! = A[j / 34] := by rw [getElem!_pos A.toArray (j / 34) (by simpa using hq)]; simp
   rw [hx]
   refine Z1x (enc := Z0L) hv rfl Z2R (i := j / 34) (x := A[j / 34]) (List.getElem?_eq_getElem hq) (j % 34) (by have := Nat.mod_lt j (show 0 < 34 by omega); simp [Nat.blt_eq, this]) (by omega) ?_
   have hm : j % 34 < (Z0L A[j / 34]).length := by rw [Z2R]; omega
   rw [List.getElem?_eq_getElem hm, getElem!_pos (Z0L A[j / 34]) _ hm]; rfl
  ·unfold World.frozen?
   rw [hb]; simp
 have hbl : ∀ (n : Nat) (W : World), n ≤ 12 → Calls Tryz.prog (sortO_ren.f 15) #[.int .u64 n] W fun e w' => (∃ l : Int, e = .returned (.int .i64 l)) ∧ w' = W := fun n W hn =>
  (Any.bits_Len Z7O n W (by omega) (by omega)).mono fun _ _ ⟨he, hw⟩ => ⟨⟨_, he⟩, hw⟩
 have h := AnyQ.slices_SortFunc_small_sorted (P := Tryz.prog) sortO 34 Tryz.isAgg86 Tryz.sizeOf86 Z0L Z2R (fun x v hv => List.all_eq_true.1 (Z5v x) v hv) ZcC 96 #[.pointer (some ⟨fb, 0, none⟩)] ZcX g 0 c A.toArray w (enters_of Tryz.func96 (by kernel_rfl) rfl) (Z97 g 0 _ w hne hfb) hH hg (by simpa using h12) hbl
 rw [show A.toArray.size = A.length from List.size_toArray ..] at h
 refine h.mono fun e w' ⟨he, d', n, os, hp, hs, hw⟩ => ?_
 have hsz : d'.size = A.length := by simpa using hp.1
 have hp2 : d'.toList.Perm A := by
  have := hp.2.2
  have e1 : d'.extract 0 A.length = d' := by rw [← hsz]; exact Array.extract_size
  have e2 : A.toArray.extract 0 A.length = A.toArray := Array.extract_size (xs := A.toArray)
  rw [e1, e2] at this
  exact this
 refine ⟨he, d'.toList, hp2, ?_, ?_, ?_⟩
 ·rw [List.pairwise_iff_getElem]
  intro i j hi hj hij
  have hi' : i < d'.size := by simpa using hi
  have hj' : j < d'.size := by simpa using hj
  have := hs i j (Nat.zero_le _) hij (by omega)
  rw [getElem!_pos d' i hi', getElem!_pos d' j hj'] at this
  rw [Z50] at this
  have h5 := of_decide_eq_false this
  rwa [Array.getElem_toList, Array.getElem_toList]
 ·obtain ⟨q1, q2⟩ := Z3D Z0L 34 Z2R (by omega) d' cur (by rw [hsz, hcs]; exact Nat.mul_le_mul_right _ hnc)
  refine ⟨by rw [Z0A Z0L 34 Z2R]; simp [hsz], .inr ⟨g, c, putCells id 0 (flatK Z0L 34 d') cur, rfl, Nat.zero_le _, ?_, hnc, hcm, by rw [q1, hcs], by rw [← hsz]; exact q2⟩⟩
  rw [hw]
  unfold sortWorldK putRowK putRow mapBlock grow Sort.ahead
  simp only [Array.getElem?_append, Array.size_modify, hg, if_true, Array.getElem?_modify]
  rw [hb]; rfl
 ·subst hw
  refine ⟨rfl, rfl, rfl, size_sortWorldK_c _ _ _ _ _ _ _ _, fun k hk hne => ?_⟩
  have hne : g ≠ k := fun e => hne (by simp [e])
  unfold sortWorldK putRowK putRow mapBlock grow Sort.ahead
  simp only [Array.getElem?_append, Array.size_modify, hk, if_true, Array.getElem?_modify, if_neg hne]
theorem Z91 (w : World) (a : Option Addr) (c : Nat) (D : List OpR) (fb : Nat) (hv : (ZR [Zc 86 34 (.slice a D.length c) D.length (D.flatMap Z0L), Z0 fb 133 [.func (.func 51) #[] #[]]]).ok w) (h12 : D.length ≤ 12) :
  Calls Tryz.prog 95 #[.slice a D.length c, .func (.func 96) #[] #[.pointer (some ⟨fb, 0, none⟩)]] w fun e w' => ∃ D' : List OpR, e = .returned (.tuple #[]) ∧ D'.Perm D ∧ (D'.Pairwise fun a b => ¬ ZdK b a) ∧ Sat w [Zc 86 34 (.slice a D'.length c) D'.length (D'.flatMap Z0L), Z0 fb 133 [.func (.func 51) #[] #[]], Z3 w (ZR [Zc 86 34 (.slice a D.length c) D.length (D.flatMap Z0L), Z0 fb 133 [.func (.func 51) #[] #[]]]).fp] w' := by
 have H := Sat.start _ hv
 cases hD : D with
 | nil =>
  subst hD
  refine (ZbZ a c (.func (.func 96) #[] #[.pointer (some ⟨fb, 0, none⟩)]) w).mono fun e w' ⟨he, hw⟩ => ?_
  subst hw
  exact ⟨[], he, List.Perm.refl _, List.Pairwise.nil, H⟩
 | cons x D0 =>
  rw [← hD]
  have hv0 := hv.1 _ List.mem_cons_self
  have hv1 := hv.1 _ (List.mem_cons_of_mem _ List.mem_cons_self)
  obtain ⟨g, c', hs⟩ := Z0z hv0 (by rw [hD]; simp)
  simp only [Value.slice.injEq] at hs
  obtain ⟨rfl, _, rfl⟩ := hs
  have hne : fb ≠ g := fun e => (List.pairwise_cons.1 hv.2).1 _ List.mem_cons_self g rfl e.symm
  refine (Zbe w g c D hv0 h12 fb hne hv1).mono fun e w' ⟨he, D', hp, hs, hok, hu⟩ => ?_
  have hl := hp.length_eq
  refine ⟨D', he, hp, hs, ?_⟩
  rw [hl]
  exact H.setU hu 0 rfl (by rintro b' hb; rw [List.mem_singleton.1 hb]; rfl) hok (fun b hb => .inl hb)
end Go.Proofs.YtenihpghfdcpkaaGreat
