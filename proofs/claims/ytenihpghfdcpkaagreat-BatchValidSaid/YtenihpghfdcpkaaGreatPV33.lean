/- WHAT IS PROVED: contracts and plain laws of UniM, LaidP, Fst12, Sort0P, SortP12, Mk12, FiP, Law12M, TurnM12, FrameU, OpenC10, OpenP12, EntL, LogM12, Ord12M, MkR12M, TabG, FullAp. Conditions: stated with each. -/
import Derived.ArgAppend
import Derived.Sort.Walk0
import Derived.Test.YtenihpghfdcpkaaGreatPV02
import Derived.Test.YtenihpghfdcpkaaGreatPV05
import Derived.Test.YtenihpghfdcpkaaGreatPV06
import Derived.Test.YtenihpghfdcpkaaGreatPV07
import Derived.Test.YtenihpghfdcpkaaGreatPV13
import Derived.Test.YtenihpghfdcpkaaGreatPV16
import Derived.Test.YtenihpghfdcpkaaGreatPV17
import Derived.Test.YtenihpghfdcpkaaGreatPV20
import Derived.Test.YtenihpghfdcpkaaGreatPV23
import Derived.Test.YtenihpghfdcpkaaGreatPV24
import Derived.Test.YtenihpghfdcpkaaGreatPV29
import Derived.Test.YtenihpghfdcpkaaGreatPV30
import Derived.Test.YtenihpghfdcpkaaGreatPV32
set_option maxHeartbeats 4000000
set_option maxRecDepth 100000
namespace Go.Proofs.YtenihpghfdcpkaaGreat
open Go.RowKit
section
variable {last tm : Int} {lg : NmD → Bool} {M : ZcU} {Z : List CeR} {c : CeR} {n : NmD} {e : Z3x}
end
end Go.Proofs.YtenihpghfdcpkaaGreat
namespace Go.Proofs.YtenihpghfdcpkaaGreat
open Go.RowKit Go.Shelf
end Go.Proofs.YtenihpghfdcpkaaGreat
namespace Go.Proofs.YtenihpghfdcpkaaGreat
open Go.RowKit
end Go.Proofs.YtenihpghfdcpkaaGreat
namespace Go.Proofs.YtenihpghfdcpkaaGreat
open Go.RowKit Go.Shelf Go.Sort
instance : Inhabited PrR := ⟨pr0⟩
def ltPr (x y : PrR) : Prop := x.r < y.r
instance (x y : PrR) : Decidable (ltPr x y) := by unfold ltPr; exact inferInstance
end Go.Proofs.YtenihpghfdcpkaaGreat
namespace Go.Proofs.YtenihpghfdcpkaaGreat
open Go.RowKit
def Z9n (F E T : Int) (p : PrR) : Bool := inB F p.r && decide (p.e = E) && decide (p.f = T)
section
variable {M : List (Int × Z3x)}
theorem OpenOk.nil : OpenOk [] := fun i => by simp [Zv, Z1t]
theorem OpenOk.put {a : Int} {v : Z3x} (h : OpenOk M) (hv : v.cl ≤ 1000000 ∧ v.sq ≤ 1000000) : OpenOk (Z30 M a v) := fun i => by
 by_cases e : i = a
 ·subst e; rw [Z2x]; exact hv
 ·rw [Z2b _ _ _ _ e]; exact h i
theorem open3 : OpenOk (Z3l (Zq 3)) := by
 have e : Z3l (Zq 3) = Z30 (Z30 (Z30 [] (Z1B 0).i ⟨(Z1B 0).cl, (Z1B 0).sq, (Z1B 0).h, (Z1B 0).t⟩) (Z1B 1).i ⟨(Z1B 1).cl, (Z1B 1).sq, (Z1B 1).h, (Z1B 1).t⟩) (Z1B 2).i ⟨(Z1B 2).cl, (Z1B 2).sq, (Z1B 2).h, (Z1B 2).t⟩ := rfl
 rw [e]
 exact ((OpenOk.nil.put ⟨by show ((0 : Nat) : Int) ≤ 1000000; decide, by show (50 : Int) ≤ 1000000; decide⟩).put ⟨by show ((1 : Nat) : Int) ≤ 1000000; decide, by show (50 : Int) ≤ 1000000; decide⟩).put ⟨by show ((2 : Nat) : Int) ≤ 1000000; decide, by show (50 : Int) ≤ 1000000; decide⟩
end
section
variable {α : Type} {num : α → Int} {may : α → Bool} {L D : List α}
theorem Zbf {n : Nat} (h : ∀ x ∈ L, 0 ≤ num x ∧ num x < n) : (Z2f num may L).length ≤ n := by
 have hd := Z5D (num := num) (may := may) (L := L)
 have hm : ∀ x ∈ Z2f num may L, 0 ≤ num x ∧ num x < n := fun x hx => h x (Zb7 hx).1
 have := Z4W n ((Z2f num may L).map fun x => (num x).toNat) ?_ fun y hy => ?_
 ·simpa using this
 ·rw [List.Nodup, List.pairwise_map]
  refine (List.pairwise_iff_forall_sublist.2 fun {a b} hs => ?_)
  have ha : a ∈ Z2f num may L := hs.subset (by simp)
  have hb : b ∈ Z2f num may L := hs.subset (by simp)
  have hne := List.pairwise_iff_forall_sublist.1 hd hs
  have h1 := hm a ha; have h2 := hm b hb
  intro e; exact hne (by omega)
 ·obtain ⟨x, hx, rfl⟩ := List.mem_map.1 hy
  have := hm x hx; omega
end
structure CeV (F last tm : Int) (Lb : List Signed) (c : CeR) : Prop where
 x : CoB c.x
 S : ∀ i, i < c.S.length → StB (c.S.getD i Zl)
 len : c.S.length ≤ 12
 sm : Z3q ⟨c.x.cl, c.x.seq⟩
 rt : Z0z F 3 Lb c.x c.S = true
 time : last < ZZ c.S ∧ ZZ c.S ≤ tm
structure PrV (F last tm : Int) (Lb : List Signed) (p : PrR) : Prop where
 r : 0 ≤ p.r ∧ p.r < 3 * F + 1
 e : p.e = 4
 f : p.f = tm
 sb : p.sb = p.r
 sm : Z0B Lb p.sb p.sm (Z11 p) = true
 len : p.C.length ≤ 5
 ce : ∀ c ∈ p.C, CeV F last tm Lb c
 up : p.C.Pairwise fun a b => Z4Z a b = true
section
variable {F last tm : Int} {Lb Lb' : List Signed} {B : List Ck} {p q : PrR} {PS PD DP : List PrR} {w : World}
theorem PrG.val (h : PrG F last tm Lb B p) : PrV F last tm Lb p :=
 ⟨h.r, h.e, h.f, h.sb, h.sm, h.len, fun c hc => ⟨(h.tab.ct c hc).x, (h.tab.ct c hc).S, (h.tab.ct c hc).len, h.tab.sm c hc, h.tab.rt c hc, h.time c hc⟩, h.tab.up⟩
theorem PrG.prk (h : PrG F last tm Lb B p) (hb : (Z0G B).ok w) : PrK w p :=
 ⟨bag_ce hb h.inn, Nat.le_trans h.len (by decide), fun i hi => hb _ (h.tab.ct _ (Z23 hi)).bag, fun i hi => Nat.le_trans (h.tab.ct _ (Z23 hi)).len (by decide)⟩
theorem PrG.may (h : PrG F last tm Lb B p) : Z9n F 4 tm p = true := by
 unfold Z9n inB
 rw [decide_eq_true h.r.1, decide_eq_true h.r.2, decide_eq_true h.e, decide_eq_true h.f]; rfl
theorem PsF.up (h : PsF F last tm Lb B PS) : PS.Pairwise fun a b => a.r < b.r := by
 have h1 : (PS.map (·.r)).Pairwise (· < ·) := by
  rw [h.nums, List.pairwise_map]
  exact List.pairwise_lt_range.imp fun h => by omega
 exact List.pairwise_map.1 h1
theorem PsF.lim (h : PsF F last tm Lb B PS) (hF : 1 ≤ F ∧ F ≤ 2) {m : PrR → Bool} : (Z2f (fun x : PrR => x.r) m PS).length ≤ 12 :=
 Nat.le_trans (Zbf (n := 7) fun x hx => by have := (h.all x hx).r; omega) (by decide)
theorem PsF.len (h : PsF F last tm Lb B PS) (hF : 1 ≤ F) : (PS.length : Int) = 3 * F + 1 := by
 have := h.length; omega
theorem co_sub {β γ : Type} {key : β → γ} {X Y : List β} {y : β} (h : Y.map key = X.map key) (hy : y ∈ Y) : ∃ x ∈ X, key y = key x := by
 have : key y ∈ Y.map key := List.mem_map_of_mem hy
 rw [h] at this
 obtain ⟨x, hx, e⟩ := List.mem_map.1 this
 exact ⟨x, hx, e.symm⟩
theorem ce_key {c d : CeR} (e : (c.x, c.S) = (d.x, d.S)) : c.x = d.x ∧ c.S = d.S := by simpa using e
theorem ZbE (e : Zf6 p = Zf6 q) : Z11 p = Z11 q := by
 unfold Zf6 at e
 simp only [Prod.mk.injEq] at e
 obtain ⟨e1, e2, e3, _, _, e6⟩ := e
 have hl : p.C.length = q.C.length := by simpa using congrArg List.length e6
 have hc : Z5P p.C = Z5P q.C := by
  have hpc : ∀ C : List CeR, Z5P C = (C.map fun c => (c.x, c.S)).flatMap fun y => [Z07 y.1, Z5 (y.2.length : Int)].flatten ++ Z6W y.2 := fun C => by
   unfold Z5P
   rw [List.flatMap_map]; rfl
  rw [hpc, hpc, e6]
 unfold Z11 Z1O
 rw [e1, e2, e3, hl, hc]
theorem Z8W {C D : List CeR} (e : C.map (fun c => (c.x, c.S)) = D.map fun c => (c.x, c.S)) (h : D.Pairwise fun a b => Z4Z a b = true) : C.Pairwise fun a b => Z4Z a b = true := by
 have f : ∀ (a b : Zj × List Zb), Bool := fun a b => decide (a.1.cl < b.1.cl) || (decide (a.1.cl = b.1.cl) && decide (a.1.seq < b.1.seq))
 have hd : (D.map fun c => (c.x, c.S)).Pairwise fun a b => (decide (a.1.cl < b.1.cl) || (decide (a.1.cl = b.1.cl) && decide (a.1.seq < b.1.seq))) = true := List.pairwise_map.2 h
 rw [← e] at hd
 exact List.pairwise_map.1 hd
theorem PrV.key (h : PrV F last tm Lb q) (e : Zf6 p = Zf6 q) : PrV F last tm Lb p := by
 have hb := ZbE e
 unfold Zf6 at e
 simp only [Prod.mk.injEq] at e
 obtain ⟨e1, e2, e3, e4, e5, e6⟩ := e
 have hl : p.C.length = q.C.length := by simpa using congrArg List.length e6
 refine ⟨by rw [e1]; exact h.r, by rw [e2]; exact h.e, by rw [e3]; exact h.f, by rw [e4, e1]; exact h.sb, by rw [e4, e5, hb]; exact h.sm, by rw [hl]; exact h.len, fun c hc => ?_, Z8W e6 h.up⟩
 obtain ⟨d, hd, ed⟩ := co_sub e6 hc
 obtain ⟨ex, eS⟩ := ce_key ed
 have hv := h.ce d hd
 exact ⟨by rw [ex]; exact hv.x, by rw [eS]; exact hv.S, by rw [eS]; exact hv.len, by rw [ex]; exact hv.sm, by rw [ex, eS]; exact hv.rt, by rw [eS]; exact hv.time⟩
theorem PrV.more (h : PrV F last tm Lb p) (hp : Lb <+: Lb') : PrV F last tm Lb' p :=
 ⟨h.r, h.e, h.f, h.sb, Z3G hp h.sm, h.len, fun c hc => ⟨(h.ce c hc).x, (h.ce c hc).S, (h.ce c hc).len, (h.ce c hc).sm, Z7g hp (h.ce c hc).rt, (h.ce c hc).time⟩, h.up⟩
end
section
variable {last tm : Int} {lg : NmD → Bool} {Z : List CeR} {O : List Z3x} {c : CeR}
end
section
variable {α : Type} {num : α → Int} {may : α → Bool} {L L' D D' : List α} {x : α}
theorem SortN.two (h : SortN num may (L ++ L) D) (h' : SortN num may L D') : D = D' := h.same h' fun n => by
 rw [List.find?_append]
 cases L.find? fun y => decide (num y = n) && may y <;> rfl
theorem SortN.one (h : SortN num may L D) (h' : SortN num may L D') : D = D' := h.same h' fun _ => rfl
end
section
variable {F last tm : Int} {Lb : List Signed} {B : List Ck} {PS L DP : List PrR} {OS : List OpR} {TS : List TbR} {w : World} {o : OpR} {t : TbR}
theorem OpG.opk (h : OpG B o) (hb : (Z0G B).ok w) : OpK w o := ⟨hb _ h.inn, by rw [h.len]; decide⟩
end
end Go.Proofs.YtenihpghfdcpkaaGreat
namespace Go.Proofs.YtenihpghfdcpkaaGreat
open Go.ChangeShapes Go.WideShapes Go.ChangeAt Go.RowKit Go.Deep
section
variable {H : Type} {enc : TypeId × Value → H} {P : Program} {W : World}
theorem Zau {z : Int} (h : (Lit.int .u64 z).wf = true) : 0 ≤ z ∧ z ≤ 18446744073709551615 := by
 simpa [Lit.wf, IntKind.min, IntKind.max, IntKind.signed, IntKind.bits] using h
def ZcQ (w : World) (a : Addr) (x : Int) : Prop := w.cell? a = some (u6 x)
theorem ZcH {t e : TypeId} (ht : P.underlying t = some (.slice e)) (he : P.underlying e = some (.int .u64)) (hc : P.cellsOf e = 1) {v : Value} {d : DataW H} {ps : List MemPlace} (hv : ∃ a len cap, v = .slice a len cap)
  (h : DataW.Trod enc P W 0 (fun _ => true) true t v d ps) : ∃ xs, (∀ x ∈ xs, 0 ≤ x ∧ x ≤ 18446744073709551615) ∧ ListAt Z4b 1 W v xs := by
 obtain ⟨xs, hx⟩ := Z3s (R := fun w a x => ZcQ w a x ∧ 0 ≤ x ∧ x ≤ 18446744073709551615) ht hc (by omega) hv h (fun cs n y b off hl hcs hy => by
  obtain ⟨z, rfl, hz⟩ := Z1F he hy
  exact ⟨z, hcs 0 (by simp), Zau hz⟩)
 refine ⟨xs, fun n hn => ?_, SliceOf.imp hx fun a x h j u hj => ?_⟩
 ·obtain ⟨i, hi, rfl⟩ := List.mem_iff_getElem.1 hn
  obtain ⟨b, off, cap, _, _, hall⟩ := hx.some (by omega)
  exact (hall i hi).2
 ·match j, hj with
  | 0, hj =>
   simp only [Z4b, List.getElem?_cons_zero, Option.some.injEq] at hj
   subst hj
   have := h.1
   obtain ⟨b, o, s⟩ := a
   unfold ZcQ at this
   have e : (⟨b, o, s⟩ : Addr).add 0 = ⟨b, o, s⟩ := by cases s <;> simp [Addr.add]
   rw [e]; exact this
  | _ + 1, hj => simp [Z4b] at hj
end
section
variable {H : Type} {enc : TypeId × Value → H} {W : World}
theorem Z6G {P : Program} {t : TypeId} {fs : Array Field} {n : Nat} {cs : List Value} {y : DataW H × List MemPlace} (ht : P.underlying t = some (.struct fs)) (h : DataW.trod enc P W 0 (fun _ => true) true n t cs = some y) :
  cs.length = P.cellsOf t ∧ ∃ m, ∀ (i : Nat) (g : Field), fs[i]? = some g → ∃ z, DataW.trod enc P W 0 (fun _ => true) true m g.type ((cs.drop g.offset).take (P.cellsOf g.type)) = some z := by
 obtain ⟨xs, m, _, _, hl, hx, hf⟩ := DataW.trod_struct ht h
 refine ⟨hl, m, fun i g hg => ?_⟩
 have h1 := hf i g hg
 have hi : i < xs.length := by
  rw [hx]
  obtain ⟨h, _⟩ := Array.getElem?_eq_some_iff.1 hg
  exact h
 rw [List.getElem?_eq_getElem hi] at h1
 exact ⟨_, h1⟩
theorem Z1Z {cs A rest : List Value} {o n : Nat} (h : (cs.drop o).take n = A) (hr : cs.drop (o + n) = rest) : cs.drop o = A ++ rest := by
 rw [← h, ← hr, ← List.drop_drop, List.take_append_drop]
theorem Za8 {cs : List Value} {n : Nat} (h : cs.length = n) : cs.drop n = [] := by rw [← h, List.drop_length]
theorem ZaL {t i : TypeId} {f g : Field} {n : Nat} {cs : List Value} {y : DataW H × List MemPlace} (ht : Tryz.prog.underlying t = some (.struct #[f, g])) (hi : Tryz.prog.underlying i = some (.int .i64)) (hf : f.type = i) (hg : g.type = i) (of : f.offset = 0) (og : g.offset = 1) (hc : Tryz.prog.cellsOf i = 1) (hn : Tryz.prog.cellsOf t = 2)
  (h : DataW.trod enc Tryz.prog W 0 (fun _ => true) true n t cs = some y) : ∃ a b : Int, cs = [i6 a, i6 b] ∧ (-9223372036854775808 ≤ a ∧ a ≤ 9223372036854775807) ∧ (-9223372036854775808 ≤ b ∧ b ≤ 9223372036854775807) := by
 obtain ⟨hl, m, hq⟩ := Z6G ht h
 obtain ⟨z0, h0⟩ := hq 0 _ rfl
 obtain ⟨z1, h1⟩ := hq 1 _ rfl
 simp only [List.getElem_toArray, List.getElem_cons_zero, List.getElem_cons_succ, hf, hg, of, og, hc] at h0 h1
 obtain ⟨a, e0, w0⟩ := Z1F (k := .i64) hi h0
 obtain ⟨b, e1, w1⟩ := Z1F (k := .i64) hi h1
 refine ⟨a, b, ?_, Zag w0, Zag w1⟩
 have := Z1Z e0 (Z1Z e1 (Za8 (hl.trans hn)))
 simpa using this
theorem Zb5 {n : Nat} {cs : List Value} {y : DataW H × List MemPlace} (h : DataW.trod enc Tryz.prog W 0 (fun _ => true) true n 59 cs = some y) : ∃ a b : Int, cs = [i6 a, i6 b] ∧ (-9223372036854775808 ≤ a ∧ a ≤ 9223372036854775807) ∧ (-9223372036854775808 ≤ b ∧ b ≤ 9223372036854775807) :=
 ZaL Tryz.underlying59 Tryz.underlying3 rfl rfl rfl rfl (by kernel_rfl) (by kernel_rfl) h
theorem agg_of {v : Value} {cs : List Value} (hv : ∃ ws, v = .agg ws) (h : v.cells.toList = cs) : v = .agg ⟨cs⟩ := by
 obtain ⟨⟨l⟩, rfl⟩ := hv
 simp only [Value.cells] at h; rw [h]
end
section
variable {H : Type} {enc : TypeId × Value → H} {W : World}
end
end Go.Proofs.YtenihpghfdcpkaaGreat
namespace Go.Proofs.YtenihpghfdcpkaaGreat
open Go.RowKit
section
variable {L : List Ck} {A : Ck} {p : PrR} {x : CeR} {C : List CeR} {D : List PrR} {w : World} {a b : Int} {S : List Zb}
end
def nmC (c : CeR) : NmD := ⟨c.x.cl, c.x.seq⟩
def nmM (Z : List CeR) : List (NmD × Bool) := Z.foldl (fun M c => Z30 M (nmC c) true) []
section
variable {last tm : Int} {lg : NmD → Bool} {Z A C : List CeR} {O : List Z3x} {c : CeR} {M M' X : List (NmD × Bool)} {k j : Nat} {a : NmD} {e : Z3x}
theorem Z8o (h : ∀ c ∈ Z, Z9x last tm lg (Z7F c) = false) : (Zf8 last tm lg Z).map (·.1) = (nmM Z).map (·.1) := by
 have key : ∀ (L : List CeR) (M : ZcU) (N : List (NmD × Bool)), M.map (·.1) = N.map (·.1) → (∀ c ∈ L, Z9x last tm lg (Z7F c) = false) → (L.foldl (fun M c => Z7X last tm lg M (Z7F c)) M).map (·.1) = (L.foldl (fun M c => Z30 M (nmC c) true) N).map (·.1) := by
  intro L
  induction L with
  | nil => intro M N h _; exact h
  | cons c L ih =>
   intro M N h hs
   rw [List.foldl_cons, List.foldl_cons]
   refine ih _ _ ?_ fun d hd => hs d (by simp [hd])
   have hsc := hs c (by simp)
   have hn : Z72 (Z7F c) = nmC c := rfl
   cases hq : Zv M (Z72 (Z7F c)) with
   | none => rw [ZcE hsc hq, Z4f, Z4f, hn, h]
   | some v =>
    have hm : nmC c ∈ M.map (·.1) := by
     have := Z8w hq
     rw [← hn]; exact List.mem_map.2 ⟨_, this, rfl⟩
    rw [ZcB hsc hq, Z4f, ← h, if_pos hm]
    split
    ·rw [Z4f, hn, if_pos hm]
    ·rfl
 exact key Z [] [] rfl h
theorem ZdU : ∀ y ∈ nmM Z, y.2 = true := by
 have key : ∀ (L : List CeR) (M : List (NmD × Bool)), (∀ y ∈ M, y.2 = true) → ∀ y ∈ L.foldl (fun M c => Z30 M (nmC c) true) M, y.2 = true := by
  intro L
  induction L with
  | nil => intro M h; exact h
  | cons d L ih =>
   intro M h
   refine ih _ fun y hy => ?_
   rcases Z82 hy with rfl | hy
   ·rfl
   ·exact h y hy
 exact key Z [] (by simp)
structure DueI (O : List Z3x) (j : Nat) (X : List (NmD × Bool)) : Prop where
 keys : (X.map (·.1)).Perm ((O.drop j).map Z72)
 nd : (X.map (·.1)).Nodup
 tr : ∀ y ∈ X, y.2 = true
theorem DueI.start (hsm : ∀ c ∈ Z, Zeq c) (hO : O.Perm ((Zf8 last tm lg Z).map (·.2))) (h : ∀ c ∈ Z, Z9x last tm lg (Z7F c) = false) : DueI O 0 (nmM Z) := by
 have hok := Zel (last := last) (tm := tm) (lg := lg) hsm
 have hk := Z8o h
 have he : (Zf8 last tm lg Z).map (·.1) = ((Zf8 last tm lg Z).map (·.2)).map Z72 := by
  rw [List.map_map]
  exact List.map_congr_left fun x hx => hok.nm x hx
 refine ⟨?_, by rw [← hk]; exact hok.nd, ZdU⟩
 rw [← hk, he, List.drop_zero]
 exact (hO.map Z72).symm
theorem DueI.len (hsm : ∀ c ∈ Z, Zeq c) (hO : O.Perm ((Zf8 last tm lg Z).map (·.2))) (h : ∀ c ∈ Z, Z9x last tm lg (Z7F c) = false) : O.length = (nmM Z).length := by
 have hk := congrArg List.length (Z8o h)
 simp only [List.length_map] at hk
 rw [hO.length_eq, List.length_map, hk]
theorem DueI.has (h : DueI O j X) (hx : O[j]? = some e) : (Zv X (Z72 e)).getD false = true := by
 obtain ⟨hj, ej⟩ := List.getElem?_eq_some_iff.1 hx
 have hm : Z72 e ∈ X.map (·.1) := by
  refine h.keys.mem_iff.2 (List.mem_map.2 ⟨e, ?_, rfl⟩)
  rw [← ej]
  exact List.mem_drop_iff_getElem.2 ⟨0, by omega, by simp⟩
 obtain ⟨y, hy, hyn⟩ := List.mem_map.1 hm
 cases hq : Zv X (Z72 e) with
 | none => exact absurd hm (Zbb.1 hq)
 | some v =>
  have := h.tr _ (Z8w hq)
  simpa using this
end
section
variable {α β : Type} {num : α → Int} {key : α → β} {A B : List α}
end
section
variable {F la tm : Int} {LB : List Signed} {B : List Ck} {PS DP PD P : List PrR} {OS DO OD : List OpR} {TS DT TD : List TbR} {Q : Nat} {X : List (Int × Bool)} {M : List (Int × Z3x)} {p : PrR}
theorem PrV.right (h : PrV F la tm LB p) (htm : tm < 18446744073709551615) : Z0H F 3 LB p = true := by
 unfold Z0H
 have hC : (List.range p.C.length).all (Z4J F 3 LB p.f p.C) = true := Z1r fun i hi => by
  have hm : p.C.getD i ce0 ∈ p.C := Z23 hi
  have hc := h.ce _ hm
  unfold Z4J
  rw [hc.rt, decide_eq_false (show ¬ ZZ (p.C.getD i ce0).S > p.f by rw [h.f]; have := hc.time; omega)]
  by_cases h0 : (i : Int) > 0
  ·have q := List.pairwise_iff_getElem.1 h.up (i - 1) i (by omega) hi (by omega)
   have e1 : p.C.getD i ce0 = p.C[i] := by rw [List.getD_eq_getElem?_getD, List.getElem?_eq_getElem hi]; rfl
   have e2 : p.C.getD (i - 1) ce0 = p.C[i - 1] := by rw [List.getD_eq_getElem?_getD, List.getElem?_eq_getElem (by omega)]; rfl
   rw [e1, e2, q]; simp
  ·rw [decide_eq_false h0]; rfl
 have hb : inB F p.r = true := by unfold inB; have := h.r; simp; omega
 rw [hC, hb, h.sm, decide_eq_true h.sb, decide_eq_false (show ¬ p.e < 0 by rw [h.e]; decide), decide_eq_false (show ¬ p.e > 1048576 by rw [h.e]; decide), decide_eq_false (show ¬ (p.C.length : Int) > 64 by have := h.len; omega), decide_eq_false (show ¬ p.f = 18446744073709551615 by rw [h.f]; omega)]
 rfl
theorem ZaH {L : List TbR} {i : Nat} (h : i < L.length) : L.getD i tb0 ∈ L := by
 rw [List.getD_eq_getElem?_getD, List.getElem?_eq_getElem h]; exact List.getElem_mem h
theorem SortN.in {α : Type} {num : α → Int} {may : α → Bool} {L D : List α} {x : α} (h : SortN num may L D) (hx : x ∈ D) : x ∈ L ∧ may x = true := by
 have q := h.mem.1 hx
 have h2 := List.find?_some q
 simp only [Bool.and_eq_true] at h2
 exact ⟨List.mem_of_find?_eq_some q, h2.2⟩
end
section
variable {F E T : Int} {L DP : List PrR} {n : Nat} {OS DO : List OpR} {TS DT : List TbR} {OO : List Z1g} {M : List (Int × Z3x)} {X : List (Int × Bool)}
theorem Z9M {r : Int} {x : PrR} (h : prG L E T r = some x) : x ∈ L ∧ x.r = r ∧ x.e = E ∧ x.f = T := by
 unfold prG at h
 have h2 := List.find?_some h
 simp only [Bool.and_eq_true, decide_eq_true_eq] at h2
 exact ⟨List.mem_of_find?_eq_some h, h2.1.1, h2.1.2, h2.2⟩
theorem Zd8 (hn : (n : Int) = 3 * F + 1) (h : SortN (fun x : PrR => x.r) (Z9n F E T) L DP) : Z5E L E T n = DP := by
 refine Z4U (num := fun x : PrR => x.r) ?_ h.up fun x => ?_
 ·unfold Z5E
  rw [List.pairwise_filterMap]
  refine List.pairwise_lt_range.imp fun {a b} hab x hx y hy => ?_
  have h1 := Z9M hx
  have h2 := Z9M hy
  omega
 ·rw [h.mem]
  unfold Z5E
  rw [List.mem_filterMap]
  have key : ∀ r : Int, 0 ≤ r → r < 3 * F + 1 → (fun p : PrR => decide (p.r = r) && decide (p.e = E) && decide (p.f = T)) = fun p : PrR => decide (p.r = r) && Z9n F E T p := fun r h1 h2 => by
   funext p
   unfold Z9n inB
   by_cases e : p.r = r
   ·rw [e, decide_eq_true h1, decide_eq_true h2]; simp
   ·rw [decide_eq_false e]; rfl
  constructor
  ·rintro ⟨i, hi, hx⟩
   have hi := List.mem_range.1 hi
   have h1 := Z9M hx
   unfold prG at hx
   rw [key _ (by omega) (by omega)] at hx
   rw [h1.2.1]; exact hx
  ·intro hx
   have h2 := List.find?_some hx
   unfold Z9n inB at h2
   simp only [Bool.and_eq_true, decide_eq_true_eq] at h2
   refine ⟨x.r.toNat, List.mem_range.2 (by omega), ?_⟩
   unfold prG
   rw [show ((x.r.toNat : Nat) : Int) = x.r by omega, key _ (by omega) (by omega)]
   exact hx
end
abbrev ZbA (p0 : Int) (p1 : Int) : List Value := ([i6 p0, i6 p1] : LV)
abbrev Z6m : List Value := ([i6 0, i6 0] : LV) ++ hc Zz ++ ([i6 0, i6 0, i6 0, (.slice none 0 0)] : LV)
abbrev ZeU (p0 : CeR) : List Value := ([i6 p0.x.cl, i6 p0.x.seq] : LV) ++ hc p0.x.h ++ ([i6 p0.x.len, i6 p0.x.sb, i6 p0.x.sm, (.slice p0.sa p0.S.length p0.sc)] : LV)
theorem ZdJ (w : World) (t : Nat) (F Cn rp : Int) (la : Option Addr) (lc : Nat) (L : List CeR) (ht : (Z0 t 107 [i6 F, i6 Cn, i6 rp, .slice la L.length lc]).ok w) (hrow : (Zo 76 38 (.slice la L.length lc) L.length (L.flatMap Z1o)).ok w) (hlL : L.length ≤ 64) (a b : Int) :
  Calls Tryz.prog 86 #[zp t, (.agg ⟨([i6 a, i6 b] : LV)⟩)] w fun e w' => e = .returned (.tuple #[.agg ⟨Z1o ((Z0d L a b).getD ce0)⟩, .bool (Z0d L a b).isSome]) ∧ Upd [] w w' := by
 have H := Sat.start0 w
 have hlL0 := hlL
 refine Zg Tryz.func86 rfl 35 rfl kn ?_
 let A2 := ZbA a b
 refine zsl <| zy <| zdb A2 H fun b2 w3 H4 => ?_
 refine kk <| zy <| zda (Z6m) H4 fun b6 w7 H8 => ?_
 let A1 : Value := .slice la L.length lc
 refine kk <| wv 5 (.bool false) <| znt <| Z9 <| zsl <| wv 7 (pt t 0) <| wv 8 (pt t 0) <| wv 9 (pt t 3) <| zw1 10 A1 (H8.roCell 0 rfl ht (fun h => h) rfl) <| wv 11 (vi L.length) ?_
 refine wv 12 (vi 0) <| znt <| Zh <| ZB ([5, 6] ++ List.range' 12 22) (fun F_ W_ m_ => ∃ (i : Nat), F_ 12 = (vi i) ∧ (i ≤ L.length) ∧ (∀ j, j < i → ∀ y, L[j]? = some y → ¬ (y.x.cl = a ∧ y.x.seq = b)) ∧ Sat w [zR w, Z0 b2 59 A2, Z0 b6 76 (Z6m)] W_ ∧ m_ = L.length - i) _ ⟨0, (show ((vi 0) : Value) = _ by first | rfl | go_num), (Nat.zero_le _), (fun _ h => absurd h (Nat.not_lt_zero _)), H8, rfl⟩ ?_
 rintro g9 w10 _ ⟨i, v12, hi, hno, H11, rfl⟩
 refine Zn 12 _ v12 ?_
 refine zsl <| wv 13 (.bool (decide ((i : Int) < L.length))) <| znt <| Z9 ?_
 refine zid (fun b14 g15 => ?_) fun b14 g29 => ?_
 ·refine Zp <| ztn <| Z9 <| Zh <| zsl <| wv 14 (vi i) <| wv 6 (vi i) <| znt <| Z9 <| zqs H11 ?_
  refine qv 15 (pt t 0) <| qv 16 (pt t 0) <| qv 17 (pt t 3) <| qv 18 A1 ?_ (hr := fun _ H' => (zl1 (H'.roCell 0 rfl ht (fun h => h) rfl)))
  refine qv 19 (vi i) ?_
  obtain ⟨g17, c18, e19⟩ := Z1A hrow om
  obtain ⟨x20, h21⟩ := Z2P (show i < L.length by omega)
  let A0 : Value := .pointer (some ⟨g17, 0 + ((i : Int)).toNat * 38, none⟩)
  refine qv 20 A0 ?_ (hr := fun _ H' => (Z1e (E := 76) kr kr kn rfl e19 rfl om om))
  let A4 := ZbA x20.x.cl x20.x.seq
  refine qv 21 A0 <| qv 22 A0 <| qv 23 (.agg ⟨A4⟩) ?_ (hr := fun _ H' => (ZX (vs := A4) rfl kr kr kn (Z40 (H'.roCk 0 rfl hrow (fun _ _ h => h)) e19 Z13 h21 0 (show 0 + ((i : Int)).toNat * 38 = i * 38 + 0 by omega) kr kr)))
  refine qv 24 (.agg ⟨A2⟩) ?_ (hr := fun _ H' => (zlN (vs := A2) (H'.at 1 rfl)))
  refine qv 25 (.bool (decide (x20.x.cl = a ∧ x20.x.seq = b))) ?_ (hr := fun _ H' => (Zdb x20.x.cl x20.x.seq a b rfl rfl))
  refine Z01 ?_
  intro w22 H23
  apply ztn
  refine zid (fun b24 _ => ?_) fun b24 _ => ?_
  ·refine zsl <| wv 26 (pt t 0) <| wv 27 (pt t 0) <| wv 28 (pt t 3) <| zw1 29 A1 (H23.roCell 0 rfl ht (fun h => h) rfl) <| wv 30 (vi i) <| wv 31 A0 ?_ (hr := Z1e (E := 76) kr kr kn rfl e19 rfl om om)
   let A3 := ZeU x20
   refine wv 32 (.agg ⟨A3⟩) ?_ (hr := ZX (vs := A3) rfl kr kr kn (Z40 (H23.roCk 0 rfl hrow (fun _ _ h => h)) e19 Z13 h21 0 (show 0 + ((i : Int)).toNat * 38 = i * 38 + 0 by omega) kr kr))
   refine zy <| Z1S A3 H23 2 fun w26 H27 => ?_
   refine kk <| wv 5 (.bool true) <| znt <| Zk <| Zf <| Z4 <| Zs <| Zf <| Z4 <| Z8l rfl (Z02 (vs := A3) rfl kr kr kn (H27.at 2 rfl) kr) (Z0S (v := (.bool true)) rfl) ?_
   exact ⟨by rw [ZdH hno h21 b24]; rfl, H27.upd 0 rfl [] ne⟩
  refine Zp <| Z6 <| ztn <| ZG <| zwi 33 ((i : Int) + 1) <| wv 12 (vi ((i : Int) + 1)) <| ZL <| Za ?_ _ ⟨(i + 1), rfl, om, (Zby hno h21 b24), H23, rfl⟩ om
  exact zs
 refine zxb <| ztn <| zsl <| wv 34 (.agg ⟨(Z6m)⟩) <| zy <| Z1S (Z6m) H11 2 fun w32 H33 => ?_
 refine kk <| wv 5 (.bool false) <| znt <| Zk <| Z8l rfl (Z02 (vs := (Z6m)) rfl kr kr kn (H33.at 2 rfl) kr) (Z0S (v := (.bool false)) rfl) ?_
 exact ⟨by rw [Zcc hno (show L.length ≤ i by omega)]; kernel_rfl, H33.upd 0 rfl [] ne⟩
section
variable {α : Type} {enc : α → List Value} {sz : Nat} {w : World} {xs : List α}
theorem ZeF {w : World} {e size n base : Nat} {v : Value} {xs : List Value} (h : w.ownsRow base e size v n xs) : (Zo e size v n xs).ok w ∧ ∀ b, v.ownBlock = some b → base ≤ b := by
 refine ⟨⟨h.1, ?_⟩, fun b hb => ?_⟩
 ·rcases h.2 with hn | ⟨g, cap, cur, hv, hb, rest⟩
  ·exact .inl hn
  ·exact .inr ⟨g, cap, cur, hv, Nat.zero_le _, rest⟩
 ·rcases h.2 with ⟨rfl, _⟩ | ⟨g, cap, cur, rfl, hg, _⟩
  ·simp [Value.ownBlock] at hb
  ·simp [Value.ownBlock] at hb; omega
theorem ListAt.take3 {a : Option Addr} {n c k : Nat} (h : ListAt enc sz w (.slice a n c) xs) (hk : k ≤ n) (_h0 : 0 < sz) (_hs : ∀ x, (enc x).length = sz) : ListAt enc sz w (.slice a k k) (xs.take k) := by
 have hc := ListAt.cap h
 rcases h with ⟨a', c', e, rfl, hc, ha⟩ | ⟨hp, b, o, c', e, ⟨h1, h2⟩, h⟩
 ·simp only [Value.slice.injEq] at e
  obtain ⟨rfl, rfl, rfl⟩ := e
  obtain rfl : k = 0 := by omega
  exact .inl ⟨_, _, rfl, by simp, by omega, fun _ => rfl⟩
 ·simp only [Value.slice.injEq] at e
  obtain ⟨rfl, rfl, rfl⟩ := e
  have hl : (xs.take k).length = k := by rw [List.length_take]; omega
  by_cases hz : k = 0
  ·subst hz; exact .inl ⟨_, _, rfl, by simp, by omega, fun _ => rfl⟩
  ·refine .inr ⟨by omega, b, o, _, by rw [hl], ⟨by omega, by omega⟩, fun i hi => ?_⟩
   rw [List.getElem_take]
   exact h i (by rw [hl] at hi; omega)
end
section
variable {P : Program} {n : Nat} {f : Nat → Value} {w w' : World} {dst : Option Tmp} {ty : TypeId} {pos : String} {aft : Array Edge} {gd : Option (Nat × Bool)} {w0 : World} {G : List Ck} {K : Act → World → Prop} {Q : Exit → Act → World → Prop}
theorem ZcY {T E : TypeId} {x y z : Operand} {a : Option Addr} {len cap : Nat} {k k' : IntKind} {i j : Int} {q : Nat} (hT : P.underlying T = some (.slice E)) (hE : (P.info? E).isSome = true) (hx : ev n f x = .slice a len cap) (hy : ev n f y = .int k i) (hz : ev n f z = .int k' j) (h1 : i = (q : Int)) (h2 : j = (q : Int)) (h3 : q ≤ cap) :
  (execOp (ev n f) ⟨dst, .slice T x none (some y) (some z), ty, pos, aft, gd⟩).run P w = .ok (.value (.slice a q q)) w := by
 obtain ⟨inf, hi⟩ := Option.isSome_iff_exists.1 hE
 subst h1 h2
 have e0 : a.map (·.add (0 * inf.size)) = a := by cases a <;> simp [Addr.add]
 have : (Instr.slice T (.slice a len cap) none (some (.int k (q : Int))) (some (.int k' (q : Int)))).run P w = .ok (.slice a q q) w := by
  simp [Instr.slice, run_underlying hT, Instr.sliceBounds, Instr.sliceBound, asIntOf, h3, Result.andThen, sizeOf, typeInfo, hi]
  intro _
  cases a <;> simp [Addr.add]
 simp only [execOp, Instr.sliceAt, Option.map, hx, hy, hz]
 simp [run_underlying hT, this, Result.andThen]
theorem Z9D {α : Type} {enc : α → List Value} {T e : TypeId} {size bytes : Nat} (hR : Z5C P T e size bytes = true) (hs : ∀ x, (enc x).length = size) (h1 : ∀ x, (enc x).all (·.oneCell') = true) {a : Option Addr} {u : Value} {k : Nat} {xs ys : List α} (hv : ListAt enc size w (.slice a k k) xs) (hk : xs.length = k) (hu : ListAt enc size w u ys) (hp : 0 < ys.length) (hb : (k + ys.length) * bytes ≤ 140737488355328) (h63 : k + ys.length ≤ 140737488355328) :
  ∃ v' w', (Builtin.append_ #[T, T] ty #[.slice a k k, u]).run P w = .ok v' w' ∧ (Zo e size v' (k + ys.length) ((xs ++ ys).flatMap enc)).ok w' ∧ w.grownBy w' none ∧ ∀ b, v'.ownBlock = some b → w.heap.size ≤ b := by
 obtain ⟨i, z, ht, hi, hz, hsz, hby, hzs, h0⟩ := Z5r hR
 obtain ⟨b2, o2, c2, rfl, hc2⟩ := hu.cells hs h0 hp
 have grow := fun (ad : Addr) (olds : LV) (hlo : olds.length = k * size) (holds : ∀ j u, olds[j]? = some u → w.cell? (ad.add j) = some u) =>
  run_append_arg_grows (P := P) w T ty e i z size bytes ht hi hz hsz hby hzs h0 ad k k olds hlo holds ⟨b2, o2, none⟩ ys.length c2 (ys.flatMap enc) (Z2i enc size hs ys) hc2 (by omega) (by unfold maxLen; omega) hb
 have fin : ∀ (ad : Addr), a = some ad → (∀ j u, (xs.flatMap enc)[j]? = some u → w.cell? (ad.add j) = some u) → _ := fun ad ha holds => grow ad (xs.flatMap enc) (by rw [Z2i enc size hs, hk]) holds
 have done : ∀ v' w', w'.ownsRow w.heap.size e size v' (k + ys.length) (xs.flatMap enc ++ ys.flatMap enc) → (Zo e size v' (k + ys.length) ((xs ++ ys).flatMap enc)).ok w' ∧ ∀ b, v'.ownBlock = some b → w.heap.size ≤ b := fun v' w' h => by
  rw [← List.flatMap_append] at h
  exact ZeF h
 cases a with
 | some ad =>
  by_cases hz0 : 0 < xs.length
  ·obtain ⟨b, o, c, he, hc⟩ := hv.cells hs h0 hz0
   simp only [Value.slice.injEq, Option.some.injEq] at he
   obtain ⟨rfl, _, _⟩ := he
   obtain ⟨v', w', hr, ho, hg⟩ := fin _ rfl hc
   exact ⟨v', w', hr, (done v' w' ho).1, hg, (done v' w' ho).2⟩
  ·obtain rfl : xs = [] := List.eq_nil_of_length_eq_zero (by omega)
   obtain ⟨v', w', hr, ho, hg⟩ := fin _ rfl (by simp)
   exact ⟨v', w', hr, (done v' w' ho).1, hg, (done v' w' ho).2⟩
 | none =>
  obtain rfl : xs = [] := by
   rcases hv with ⟨_, _, _, h, _⟩ | ⟨_, _, _, _, e, _⟩
   ·exact h
   ·simp at e
  have hk0 : k = 0 := by simpa using hk.symm
  subst hk0
  obtain ⟨v', w', hr, ho, hg, hn⟩ := Z52 (ty := ty) hR hs h1 (World.ownsRow_nil w 0 e size) (u := .slice (some ⟨b2, o2, none⟩) ys.length c2) hu (by simpa using hb) (by simpa using h63)
  simp only [Nat.zero_add, List.nil_append] at ho ⊢
  exact ⟨v', w', hr, ho, hg, fun b hb => (hn b hb).resolve_left (by simp [Value.ownBlock])⟩
theorem Z8O {α : Type} {enc : α → List Value} {T e : TypeId} {size bytes : Nat} {x y : Operand} {d : Nat} (hd : dst = some d) (H : Sat w0 G w) (hR : Z5C P T e size bytes = true) (hs : ∀ x, (enc x).length = size) (h1 : ∀ x, (enc x).all (·.oneCell') = true) {a : Option Addr} {u : Value} {k : Nat} {xs ys : List α} (hv : ListAt enc size w (.slice a k k) xs) (hk : xs.length = k) (hu : ListAt enc size w u ys) (hp : 0 < ys.length)
  (hx : ev n f x = .slice a k k) (hy : ev n f y = u) (hb : (k + ys.length) * bytes ≤ 140737488355328) (h63 : k + ys.length ≤ 140737488355328)
  (kk : ∀ v' w', Sat w0 (G ++ [Zo e size v' (xs ++ ys).length ((xs ++ ys).flatMap enc)]) w' → K (fr n (upd f d v')) w') : WO P ⟨dst, .call { callee := .builtin .append, args := #[x, y], argTypes := #[T, T] }, ty, pos, aft, gd⟩ K Q n f w := by
 obtain ⟨v', w', hr, ho, hg, hn⟩ := Z9D (ty := ty) hR hs h1 hv hk hu hp hb h63
 rw [show k + ys.length = (xs ++ ys).length by rw [List.length_append, hk]] at ho
 exact Z4p hd (Z58 hx hy hr) (kk v' w' (H.add (Z4j hg) (fun b hb => hg.block b hb (by simp)) ho hn))
end
end Go.Proofs.YtenihpghfdcpkaaGreat
