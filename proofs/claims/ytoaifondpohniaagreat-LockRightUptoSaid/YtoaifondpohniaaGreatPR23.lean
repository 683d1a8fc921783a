/- WHAT IS PROVED: contracts and plain laws of KeysN, CmpE, Grow. Conditions: stated with each. -/
import Derived.Shelf.SlIter.Collect
import Derived.Sort.Grow
import Derived.Deep.Draws
import Derived.Test.YtoaifondpohniaaGreatPR03
import Derived.Test.YtoaifondpohniaaGreatPR04
import Derived.Test.YtoaifondpohniaaGreatPR11
import Derived.Test.YtoaifondpohniaaGreatPR12
import Derived.Test.YtoaifondpohniaaGreatPR14
set_option maxHeartbeats 4000000
set_option maxRecDepth 100000
namespace Go.Proofs.YtoaifondpohniaaGreat
open Go.RowKit Go.Maps Go.Sort Go.Shelf
open Go.ChangeMaps (setBlock)
section
variable {κ ν : Type} {encK : κ → Value} {encV : ν → Value} {w w' : World} {b r : Nat} {l seen : List (κ × ν)}
theorem IterAtE.of_walks (h : IterAtE w r b encK encV l seen) (hk : KeepsWalks w w') : IterAtE w' r b encK encV l seen := by
 obtain ⟨hne, es, clock, ps, sp, rp, h1, h2, rest⟩ := h
 exact ⟨hne, es, clock, ps, sp, rp, hk.same b _ h1 rfl, hk.same r _ h2 rfl, rest⟩
theorem IterAtE.walk (h : IterAtE w r b encK encV l seen) : ∃ o : Obj, w.heap[r]? = some o ∧ o.isWalk = true := by
 obtain ⟨hne, es, clock, ps, sp, rp, h1, h2, rest⟩ := h
 exact ⟨_, h2, rfl⟩
theorem IterAtE.left (h : IterAtE w r b encK encV l seen) : w.rangeLeft b r + seen.length = l.length := by
 obtain ⟨hne, es, clock, ps, sp, rp, h1, h2, h3, h4, h5, h6, h7, h8, hp, rfl⟩ := h
 simp only [World.rangeLeft, h1, h2]
 have hbn2 : ((sp ++ rp).map (·.1.born)).Nodup := by
  have : (ps.map (·.1.born)).Nodup := by
   have e : ps.map (·.1.born) = es.toList.map (·.born) := by rw [← h3, List.map_map]; rfl
   rw [e]; exact List.Pairwise.imp (fun h => Nat.ne_of_lt h) h7
  exact (hp.map _).nodup_iff.1 this
 rw [List.map_append, List.nodup_append] at hbn2
 have e1 : (leftOf es (sp.map (·.1.born)).toArray).size = ((sp ++ rp).map (·.1) |>.filter fun e => !(sp.map (·.1.born)).contains e.born).length := by
  have q := ((hp.map (·.1)).filter fun e => !(sp.map (·.1.born)).contains e.born).length_eq
  rw [h3] at q
  rw [← q]
  unfold leftOf
  rw [← Array.length_toList, Array.toList_filter]
  congr 1
  refine List.filter_congr fun e _ => ?_
  simp
 have e2 : ((sp ++ rp).map (·.1) |>.filter fun e => !(sp.map (·.1.born)).contains e.born) = rp.map (·.1) := by
  rw [List.map_append, List.filter_append]
  have a1 : ((sp.map (·.1)).filter fun e => !(sp.map (·.1.born)).contains e.born) = [] := by
   rw [List.filter_eq_nil_iff]
   intro e he
   obtain ⟨p, hp, rfl⟩ := List.mem_map.1 he
   simp only [List.contains_eq_mem, Bool.not_eq_true', decide_eq_false_iff_not]
   exact fun hn => hn (List.mem_map.2 ⟨p, hp, rfl⟩)
  have a2 : ((rp.map (·.1)).filter fun e => !(sp.map (·.1.born)).contains e.born) = rp.map (·.1) := by
   rw [List.filter_eq_self]
   intro e he
   obtain ⟨p, hp, rfl⟩ := List.mem_map.1 he
   simp only [List.contains_eq_mem, Bool.not_eq_true', decide_eq_false_iff_not]
   intro hx
   exact hbn2.2.2 _ hx _ (List.mem_map.2 ⟨p, hp, rfl⟩) rfl
  rw [a1, a2]; rfl
 have := hp.length_eq
 rw [e1, e2, ← h4]
 simp only [List.length_map, List.length_append] at *
 omega
end
section
variable {κ ν : Type} {encK : κ → Value} {encV : ν → Value} {F : Fence} {n : Nat} {P : Program} {w : World} {ops : Array Oper} {rest : List Oper} {o : Oper} {a : Act} {Q : Exit → Act → World → Prop} {b r : Nat} {l seen : List (κ × ν)}
theorem ZaI (hg : o.guard = none) (m : Operand) (t : TypeId) (hop : o.op = Op.range t m) (kt et : TypeId) (ht : P.underlying t = some (.map kt et)) (hm : a.eval m = .map (some b)) (hM : MapAt w b encK encV l)
  (hK : ∀ w', IterAtE w' w.heap.size b encK encV l [] → w.grownBy w' none → wpListIn F n P ops Q rest (a.put o.dst (.pointer (some ⟨w.heap.size, 0, none⟩))) w') : wpListIn F n P ops Q (o :: rest) a w := by
 refine wpListIn_plain hg fun K' hK' => ?_
 obtain ⟨es, clock, ps, hb, h1, h2, h3, h4, h5, h6⟩ := hM.pairs
 have hrun := run_range_map w t kt et b es clock ht hb
 have hlt := Z0D hb
 unfold Oper.wpIn
 refine ⟨by simp [Oper.about, hop], ?_⟩
 rw [Oper.semAt_plain F _ _ (by rw [hop]; intro c hc'; cases hc')]
 simp [execOp, hop, hm, hrun, Result.andThen]
 exact hK' _ _ (hK _ ⟨by omega, es, clock, ps, [], ps, Z6G hb _, Z1a w _, h1, h2, h3, h4, h5, h6, by simp, rfl⟩ ⟨rfl, rfl, rfl, by simp, fun k hk _ => Below.heap_alloc w _ k hk⟩)
theorem Zbv (hg : o.guard = none) (it : Operand) (hop : o.op = Op.next it false) (hit : a.eval it = .pointer (some ⟨r, 0, none⟩)) (h : IterAtE w r b encK encV l seen)
  (hDone : l.Perm seen → wpListIn F n P ops Q rest (a.put o.dst (.tuple #[.bool false])) w)
  (hMore : ∀ (y : κ × ν) (rs : List (κ × ν)) (w' : World), l.Perm ((seen ++ [y]) ++ rs) → IterAtE w' r b encK encV l (seen ++ [y]) → w.grownBy w' (some r) → (Instr.entry (.pointer (some ⟨r, 0, none⟩))).run P w' = .ok (.tuple #[encK y.1, encV y.2]) w' →
   wpListIn F n P ops Q rest (a.put o.dst (.tuple #[.bool true, encK y.1, encV y.2])) w') : wpListIn F n P ops Q (o :: rest) a w := by
 refine wpListIn_plain hg fun K' hK' => ?_
 unfold Oper.wpIn
 refine ⟨by simp [Oper.about, hop], ?_⟩
 rw [Oper.semAt_plain F _ _ (by rw [hop]; intro c hc'; cases hc')]
 obtain ⟨hne, es, clock, ps, sp, rp, h1, h2, h3, h4, h5, h6, h7, h8, hp, rfl⟩ := h
 have hbn : (es.toList.map (·.born)).Nodup := List.Pairwise.imp (fun h => Nat.ne_of_lt h) h7
 have hbn2 : ((sp ++ rp).map (·.1.born)).Nodup := by
  have : (ps.map (·.1.born)).Nodup := by
   have e : ps.map (·.1.born) = es.toList.map (·.born) := by rw [← h3, List.map_map]; rfl
   rw [e]; exact hbn
  exact (hp.map _).nodup_iff.1 this
 rcases run_next_at (P := P) w o.type r b clock clock (sp.map (·.1.born)).toArray es clock h2 h1 h8 (Nat.le_refl _) with ⟨h0, hr⟩ | ⟨e, he, w1, hw1, hr⟩
 ·have hrp : rp = [] := by
   rcases rp with _ | ⟨p, rp⟩
   ·rfl
   ·exfalso
    have hpm : p ∈ ps := hp.symm.subset (by simp)
    have hem : p.1 ∈ es.toList := by rw [← h3]; exact List.mem_map_of_mem hpm
    have hns : p.1.born ∉ sp.map (·.1.born) := by
     rw [List.map_append, List.nodup_append] at hbn2
     intro hx
     exact hbn2.2.2 _ hx p.1.born (by simp) rfl
    have : p.1 ∈ (leftOf es (sp.map (·.1.born)).toArray).toList := by
     simp only [leftOf, Array.toList_filter, List.mem_filter]
     refine ⟨hem, ?_⟩
     simpa using fun a c hac => fun e => hns (List.mem_map.2 ⟨(a, c), hac, e⟩)
    have h0' : (leftOf es (sp.map (·.1.born)).toArray).toList = [] := by simpa using h0
    rw [h0'] at this; cases this
  subst hrp
  simp [execOp, hop, hit, hr, Result.andThen]
  exact hK' _ _ (hDone (by rw [← h4]; simpa using hp.map (·.2)))
 ·simp only [leftOf, Array.toList_filter, List.mem_filter] at he
  obtain ⟨hem, hns⟩ := he
  rw [← h3] at hem
  obtain ⟨p, hpm, rfl⟩ := List.mem_map.1 hem
  have hpr : p ∈ rp := by
   rcases List.mem_append.1 (hp.subset hpm) with h | h
   ·exfalso
    simp only [List.contains_toArray, Bool.not_eq_true', List.contains_eq_mem, decide_eq_false_iff_not] at hns
    exact hns (List.mem_map.2 ⟨p, h, rfl⟩)
   ·exact h
  obtain ⟨s, t, rfl⟩ := List.append_of_mem hpr
  have hp2 : ps.Perm ((sp ++ [p]) ++ (s ++ t)) := by
   refine hp.trans ?_
   rw [List.append_assoc]
   exact List.Perm.append_left _ (List.perm_middle)
  obtain ⟨ek, evv⟩ := h5 p hpm
  rw [ek, evv] at hr
  have hw1h : w1.heap = w.heap := by rcases hw1 with rfl | rfl <;> rfl
  have hr1 : w1.heap[r]? = some (.mapIter (some b) clock (sp.map (·.1.born)).toArray clock) := by rw [hw1h]; exact h2
  obtain ⟨W', hW'⟩ : ∃ W', setBlock w1 r (.mapIter (some b) clock ((sp.map (·.1.born)).toArray.push p.1.born) clock) = W' := ⟨_, rfl⟩
  rw [hW'] at hr
  have hb2 : W'.heap[b]? = some (.map es clock) := by rw [← hW', Z3Y hne, hw1h]; exact h1
  have hr2 : W'.heap[r]? = some (.mapIter (some b) clock ((sp.map (·.1.born)).toArray.push p.1.born) clock) := by rw [← hW']; exact Z71 hr1
  have hen := run_entry_at (P := P) W' r b clock (sp.map (·.1.born)).toArray es clock p.1 hr2 hb2 (by rw [← h3]; exact List.mem_map_of_mem hpm) hbn
  rw [ek, evv] at hen
  have hgw : w.grownBy W' (some r) := by
   rw [← hW']
   rcases hw1 with rfl | rfl <;> exact ⟨rfl, rfl, rfl, by simp [setBlock], fun k _ hk => Z3Y fun e => hk (by rw [e])⟩
  have hgo := hMore p.2 ((s ++ t).map (·.2)) W' (by rw [← h4]; simpa using hp2.map (·.2)) ⟨hne, es, clock, ps, sp ++ [p], s ++ t, hb2, by rw [hr2]; simp, h3, h4, h5, h6, h7, h8, hp2, by simp⟩ hgw hen
  simp [execOp, hop, hit, hr, Result.andThen]
  exact hK' _ _ hgo
end
theorem ZbR : (Tryz.prog.info? 24).map (fun i => (i.zero, i.size, i.bytes)) = some (some (nmV nm0), 2, 16) := by kernel_rfl
def apA : Code := Code.region 2 #[{ dst := some 5, op := Op.alloc 24, type := 0, pos := "iter.go:51", after := #[], guard := none },
 { dst := none, op := Op.store 24 (Operand.tmp 5) (Operand.tmp 7), type := 0, pos := "iter.go:51", after := #[{ on := 0, ground := Ground.data }, { on := 0, ground := Ground.phase }], guard := none }] false
def apB : Code := Code.block 1 (Code.region 3 #[{ dst := some 8, op := Op.load 125 (Operand.tmp 2), type := 125, pos := "iter.go:52", after := #[], guard := none },
 { dst := some 9, op := Op.load 24 (Operand.tmp 5), type := 24, pos := "iter.go:52", after := #[], guard := none },
 { dst := some 10, op := Op.buildSlice 125 1 #[(0, Operand.tmp 9)], type := 125, pos := "iter.go:52", after := #[{ on := 1, ground := Ground.data }], guard := none },
 { dst := some 11, op := Op.call { callee := Callee.builtin Builtin.append, args := #[Operand.tmp 8, Operand.tmp 10], argTypes := #[125, 125] }, type := 125, pos := "iter.go:52", after := #[{ on := 0, ground := Ground.data }, { on := 2, ground := Ground.data }], guard := none },
 { dst := none, op := Op.store 125 (Operand.tmp 2) (Operand.tmp 11), type := 0, pos := "iter.go:52", after := #[{ on := 3, ground := Ground.data }, { on := 3, ground := Ground.chain }, { on := 0, ground := Ground.phase }, { on := 1, ground := Ground.phase }, { on := 2, ground := Ground.phase }, { on := 3, ground := Ground.phase }], guard := none }] false)
def apR (fn : FuncId) (sv : Value) (b d : Nat) (st : LoopState) : Loop :=
 { state := st, pending := none, fn, tmps := #[.slice none 0 0, sv, .pointer (some ⟨b, 0, none⟩), undef, .slice none 0 0, undef, sv, undef, undef, undef, undef, undef, undef], params := #[7], assign := apA, body := apB, defers := d }
structure ApAt (w0 : World) (fn : FuncId) (sv : Value) (b l d : Nat) (ss : List NmD) (W : World) : Prop where
 box : ∃ v, W.heap[b]? = some (.cells #[v] 125 (0, 0)) ∧ W.ownsRow w0.heap.size 24 2 v ss.length (ss.flatMap Z1A)
 L : W.heap[l]? = some (.loop (apR fn sv b d .ready))
 K : W.heap[d]? = some (.deferred (some []))
 low : Below w0.heap.size w0 W
theorem Z78 (w0 : World) (fn : FuncId) (sv : Value) (b l d B : Nat) (hB : w0.heap.size ≤ B) : AbidesFrom B (ApAt w0 fn sv b l d) := fun s W W' row h hg hrow => by
 have hrow' : ∀ r, row = some r → ∃ o : Obj, W.heap[r]? = some o ∧ o.isWalk = true := fun r e => (hrow r e).2
 obtain ⟨v, hv, hr⟩ := h.box
 exact ⟨⟨v, (grownBy_keeps hg hrow' hv rfl).trans hv, ownsRow_abides_a hr hg hrow'⟩, (grownBy_keeps hg hrow' h.L rfl).trans h.L, (grownBy_keeps hg hrow' h.K rfl).trans h.K,
  h.low.grown hg h.low.size (fun k e => Nat.le_trans hB (hrow k e).1)⟩
theorem Zbw (w : World) (x : NmD) : ∀ j u, (Z1A x)[j]? = some u → (w.alloc (.cells ⟨Z1A x⟩ 24)).cell? ((⟨w.heap.size, 0, none⟩ : Addr).add j) = some u := by
 intro j u hj
 have := World.alloc_heap_new w (.cells ⟨Z1A x⟩ 24)
 rw [Addr.add_lit]
 simp only [World.cell?, this]
 simpa using hj
theorem Zca (m : Nat) (w0 : World) (fn : FuncId) (sv : Value) (b l d : Nat) (hbl : b ≠ l) (hdl : d ≠ l) (hdb : d ≠ b) (h0b : w0.heap.size ≤ b) (h0l : w0.heap.size ≤ l) (ss : List NmD) (x : NmD) (W : World) (h : ApAt w0 fn sv b l d ss W) (hlen : ss.length < 1000000) :
    YieldAt Fence.wide m Tryz.prog l #[nmV x] W fun e W' => e = .returned (.bool true) ∧ ApAt w0 fn sv b l d (ss ++ [x]) W' ∧ KeepsWalks W W' := by
  obtain ⟨xa, xc⟩ := x
  have mixed : Tryz.prog.follows .mixedOrders = true := by kernel_rfl
  have hne : (125 : TypeId) ≠ 24 := by decide
  obtain ⟨i0, hi, hz0, hz1, hz2⟩ := info_parts ZbR
  obtain ⟨v, hv, hrow⟩ := h.box
  refine ⟨fn, #[.slice none 0 0, sv, .pointer (some ⟨b, 0, none⟩), undef, .slice none 0 0, undef, sv, .agg #[.int .i64 xa, .int .i64 xc], undef, undef, undef, undef, undef], apA, apB, by have q := run_yield (P := Tryz.prog) (args := #[nmV ⟨xa, xc⟩]) h.L rfl; simpa [apR, nmV, Z1A] using q, roundIn_of_wpIn trivial ?_⟩
  unfold apA
  gi_wp2_with gi_round_op_a
  obtain ⟨Wa, hWa⟩ : ∃ Wa, W.alloc (.cells #[.int .i64 xa, .int .i64 xc] 24) = Wa := ⟨_, rfl⟩
  rw [hWa]
  have hga : W.grownBy Wa none := by rw [← hWa]; exact ⟨rfl, rfl, rfl, by simp, fun k hk _ => Below.heap_alloc W _ k hk⟩
  have hka : KeepsWalks W Wa := by rw [← hWa]; exact KeepsWalks.alloc _ _
  have hoa : Wa.heap[W.heap.size]? = some (.cells #[.int .i64 xa, .int .i64 xc] 24 (0, 0)) := by rw [← hWa]; exact World.alloc_heap_new W _
  have hbo : b < W.heap.size := Z0D hv
  have hlo : l < W.heap.size := Z0D h.L
  replace h := Z78 w0 fn sv b l d w0.heap.size (Nat.le_refl _) ss W Wa none h hga (fun r e => by cases e)
  obtain ⟨n5, hn5⟩ : ∃ n5, W.heap.size = n5 := ⟨_, rfl⟩
  rw [hn5] at hoa hbo hlo ⊢
  clear hrow hv hWa hga hn5 v
  obtain ⟨v, hv, hrow⟩ := h.box
  have hl : l < Wa.heap.size := Z0D h.L
  have hbr := run_beginRound (P := Tryz.prog) h.L rfl
  obtain ⟨W2, hW2⟩ : ∃ W2, Wa.putObj l (.loop { apR fn sv b d .ready with state := .busy }) = W2 := ⟨_, rfl⟩
  rw [hW2] at hbr
  have hg2 : Wa.grownBy W2 (some l) := by rw [← hW2]; exact grownBy_putObj_a _ _ _
  have hk2 : KeepsWalks Wa W2 := by rw [← hW2]; exact KeepsWalks.putObj _ h.L rfl
  have hv2 : W2.heap[b]? = some (.cells #[v] 125 (0, 0)) := by rw [← hW2]; exact (World.putObj_heap_other hbl).trans hv
  have hd2 : W2.heap[d]? = some (.deferred (some [])) := by rw [← hW2]; exact (World.putObj_heap_other hdl).trans h.K
  have hL2 : W2.heap[l]? = some (.loop { apR fn sv b d .ready with state := .busy }) := by rw [← hW2]; exact World.putObj_heap_same hl
  have hrow2 : W2.ownsRow w0.heap.size 24 2 v ss.length (ss.flatMap Z1A) := hrow.kept hg2 (ownsRow_ne_a hrow h.L (fun cur e => by cases e))
  have hb2 : Below w0.heap.size w0 W2 := h.low.grown hg2 h.low.size (fun k e => by cases e; exact h0l)
  obtain ⟨hc2, hf2⟩ := cell_of_box_a hv2
  have hblt : b < W2.heap.size := Z0D hv2
  have hl2 : l < W2.heap.size := Z0D hL2
  have hdlt : d < W2.heap.size := Z0D hd2
  have far : ∀ {j : Nat} {o : Obj}, W2.heap[j]? = some o → (∀ cur, o ≠ .cells cur 24 (0, 0)) → some j ≠ v.ownBlock := fun hj hno => by
    rcases ownsRow_ne_a hrow2 hj hno with e | e
    · rw [e]; simp
    · exact fun e' => e e'.symm
  have bne : ∀ cur, Obj.cells #[v] 125 (0, 0) ≠ .cells cur 24 (0, 0) := fun cur e => hne (Obj.cells.inj e).2.1
  have ho2 : W2.heap[n5]? = some (.cells #[.int .i64 xa, .int .i64 xc] 24 (0, 0)) := by rw [← hW2]; exact (World.putObj_heap_other (by omega)).trans hoa
  have hca0 : W2.cell? ⟨n5, 0, none⟩ = some (.int .i64 xa) := by simp [World.cell?, ho2]
  have hca1 : W2.cell? ⟨n5, 1, none⟩ = some (.int .i64 xc) := by simp [World.cell?, ho2]
  clear hW2
  replace hk2 := hka.trans hk2
  refine ⟨_, hbr, ?_⟩
  unfold apB
  gi_wp2_with (first
    | (gi_at_builtin; refine wpListIn_append_own _ rfl _ _ 125 rfl w0.heap.size 24 i0 (nmV nm0) 2 16 Tryz.underlying125 hi hz0 hz1 hz2 rfl (by decide) _ _ _ rfl (hrow2.alloc _) ⟨W2.heap.size, 0, none⟩ 1 1 ([.int .i64 xa, .int .i64 xc]) rfl rfl (Zbw _ ⟨xa, xc⟩) (by simp [Value.oneCell']) (by unfold maxLen; omega) (by omega) (by have := hb2.size; simp; omega) ?_; intro v' w3 hown' hg3 hnil3
       have hv3 : w3.heap[b]? = some (.cells #[v] 125 (0, 0)) := (hg3.block b (by simp; omega) (far hv2 bne)).trans ((Below.heap_alloc _ _ b hblt).trans hv2)
       obtain ⟨hc3, hf3⟩ := cell_of_box_a hv3
       obtain ⟨g', cap', hvs, _⟩ := Z58 hown' (by omega)
       subst hvs
       go_frame)
    | gi_round_op_a)
  have hg3' : (W2.alloc (.cells ⟨[.int .i64 xa, .int .i64 xc]⟩ 24)).grownBy w3 v.ownBlock := hg3
  have hL3 : w3.heap[l]? = some (.loop { apR fn sv b d .ready with state := .busy }) := (hg3'.block l (by simp; omega) (far hL2 (fun cur e => by cases e))).trans ((Below.heap_alloc _ _ l hl2).trans hL2)
  have hd3 : w3.heap[d]? = some (.deferred (some [])) := (hg3'.block d (by simp; omega) (far hd2 (fun cur e => by cases e))).trans ((Below.heap_alloc _ _ d hdlt).trans hd2)
  have hb3 : Below w0.heap.size w0 w3 := (hb2.alloc hb2.size _).grown hg3' (by have := hb2.size; simp; omega) (fun k e => (hrow2.lt k e).1)
  obtain ⟨w4, hw4⟩ : ∃ w4, w3.setCell ⟨b, 0, none⟩ (.slice (some ⟨g', 0, none⟩) (ss.length + 1) cap') = w4 := ⟨_, rfl⟩
  rw [hw4]
  have hg4 : w3.grownBy w4 (some b) := by rw [← hw4]; exact grownBy_setCell0_a _ _ _
  have hv4 : w4.heap[b]? = some (.cells #[.slice (some ⟨g', 0, none⟩) (ss.length + 1) cap'] 125 (0, 0)) := by rw [← hw4]; exact heap_setCell_box_a _ hv3
  have hL4 : w4.heap[l]? = some (.loop { apR fn sv b d .ready with state := .busy }) := (hg4.block l (Z0D hL3) (fun e => hbl (by cases e; rfl))).trans hL3
  have hd4 : w4.heap[d]? = some (.deferred (some [])) := (hg4.block d (Z0D hd3) (fun e => hdb (by cases e; rfl))).trans hd3
  have hrow4 := hown'.kept hg4 (ownsRow_ne_a hown' hv3 bne)
  have hb4 : Below w0.heap.size w0 w4 := hb3.grown hg4 hb3.size (fun k e => by cases e; exact h0b)
  have hk4 : KeepsWalks W w4 := ((hk2.trans (KeepsWalks.alloc _ _)).trans (KeepsWalks.of_grownBy hg3' (ownsRow_not_walk_a (hrow2.alloc _)))).trans (by rw [← hw4]; exact KeepsWalks.setCell _ _ _)
  have hl4 : l < w4.heap.size := Z0D hL4
  clear hw4
  refine ⟨_, _, run_endRound none hL4, rfl, ⟨⟨_, (World.putObj_heap_other hbl).trans hv4, ?_⟩, World.putObj_heap_same hl4, (World.putObj_heap_other hdl).trans hd4, hb4.grown (grownBy_putObj_a _ _ _) hb4.size (fun k e => by cases e; exact h0l)⟩, hk4.trans (KeepsWalks.putObj _ hL4 rfl)⟩
  have := hrow4.kept (grownBy_putObj_a w4 l (.loop { { apR fn sv b d .ready with state := .busy } with state := if (none : Option Code).isNone then .ready else .done, pending := none })) (ownsRow_ne_a hrow4 hL4 (fun cur e => by cases e))
  simpa [Z1A] using this
theorem Zbk {ν : Type} {encV : ν → Value} (n l Bm b : Nat) (M : List (NmD × ν)) (J : List NmD → World → Prop)
  (hY : ∀ pre x W, J pre W → pre.length < M.length → YieldAt Fence.wide (n - 1) Tryz.prog l #[nmV x] W fun e W' => e = .returned (.bool true) ∧ J (pre ++ [x]) W' ∧ KeepsWalks W W')
  (W : World) (hJ : AbidesFrom W.heap.size J) (hm : W.cell? ⟨Bm, 0, none⟩ = some (.map (some b))) (hM : MapAt W b nmV encV M) (h0 : J [] W) (hn : 1 ≤ n) :
  CallsIn Fence.wide n Tryz.prog 98 #[.func (.yield l) #[] #[], .pointer (some ⟨Bm, 0, none⟩)] W fun e W' => (∃ v, e = .returned v) ∧ ∃ ss : List NmD, ss.Perm (M.map (·.1)) ∧ J ss W' := by
 have mixed : Tryz.prog.follows .mixedOrders = true := by kernel_rfl
 refine callsIn_of_wp Tryz.func98 rfl trivial ?_ rfl
 simp only [Tryz.ntmps98, List.size_toArray, List.length_cons, List.length_nil, Nat.reduceAdd, Nat.reduceSub, Array.replicate_succ, Array.replicate_zero, List.push_toArray, List.append_toArray, List.nil_append, List.cons_append]
 gi_wp2_with (first
  | (gi_at_range; refine ZaI rfl _ 119 rfl 24 53 Tryz.underlying119 rfl hM ?_; intro w0 hit0 hg0)
  | gi_in)
 go_frame
 gi_loopw [3] (fun _ wr => ∃ (seen : List (NmD × ν)), IterAtE wr W.heap.size b nmV encV M seen ∧ J (seen.map (·.1)) wr) (fun _ wr => wr.rangeLeft b W.heap.size)
 case atStart => exact ⟨[], hit0, hJ [] W w0 none h0 hg0 (fun r e => by cases e)⟩
 case round =>
  obtain ⟨seen, hit, hJs⟩ := hrel
  have hlf := hit.left
  gi_wp2_with (first
   | (gi_at_next; refine Zbv rfl _ rfl rfl hit ?_ ?_)
   | gi_in)
  ·intro hperm
   gi_wp2
   go_end0
   exact ⟨⟨_, rfl⟩, _, (hperm.map _).symm, hJs⟩
  ·intro y yv rs w2 hperm hit2 hg2 hen
   have hlf2 := hit2.left
   have hl2 := hperm.length_eq
   simp only [List.length_append, List.length_cons, List.length_nil] at hl2 hlf2
   have hJ2 : J (seen.map (·.1)) w2 := hJ _ wr w2 (some W.heap.size) hJs hg2 (fun r e => by cases e; exact ⟨Nat.le_refl _, hit.walk⟩)
   have hal : w2.heap.size = w2.heap.size := rfl
   have hJ3 : ∀ o : Obj, J (seen.map (·.1)) (w2.alloc o) := fun o => hJ _ w2 _ none hJ2 ⟨rfl, rfl, rfl, by simp, fun k hk _ => Below.heap_alloc w2 _ k hk⟩ (fun r e => by cases e)
   obtain ⟨ya, yc⟩ := y
   have hny : nmV ⟨ya, yc⟩ = .agg #[.int .i64 ya, .int .i64 yc] := rfl
   rw [hny] at hen ⊢
   obtain ⟨fn, tmps, assign, body, hy, hR⟩ := hY _ ⟨ya, yc⟩ _ (hJ3 (.cells #[.int .i64 ya, .int .i64 yc] 24)) (by rw [List.length_map]; omega)
   rw [hny] at hy
   gi_wp2
   refine hR.mono ?_
   rintro e W3 ⟨rfl, hJ4, hk3⟩
   have hit3 := hit2.of_walks ((KeepsWalks.alloc w2 _).trans hk3)
   have hlf3 := hit3.left
   simp only [List.length_append, List.length_cons, List.length_nil] at hlf3
   gi_wp2
   go_roundw
   case rel => exact ⟨_, hit3, by simpa using hJ4⟩
   case measure => omega
theorem Z6A {ν : Type} {encV : ν → Value} (c b : Nat) (M : List (NmD × ν)) (hlM : M.length ≤ 1000) (w : World) (hm : w.cell? ⟨c, 0, none⟩ = some (.map (some b))) (hM : MapAt w b nmV encV M) :
    CallsIn Fence.wide 3 Tryz.prog 117 #[.slice none 0 0, .func (.func 98) #[] #[.pointer (some ⟨c, 0, none⟩)]] w fun e w' => ∃ (u : Value) (ss : List NmD), e = .returned u ∧ ss.Perm (M.map (·.1)) ∧ w'.ownsRow w.heap.size 24 2 u ss.length (ss.flatMap Z1A) ∧ Below w.heap.size w w' := by
  have mixed : Tryz.prog.follows .mixedOrders = true := by kernel_rfl
  have hne : (125 : TypeId) ≠ 24 := by decide
  obtain ⟨i0, hi, hz0, hz1, hz2⟩ := info_parts ZbR
  refine callsIn_of_wp_marks Tryz.func117 rfl trivial ?_ rfl
  simp only [Tryz.ntmps117, List.size_toArray, List.length_cons, List.length_nil, Nat.reduceAdd, Nat.reduceSub, Array.replicate_succ, Array.replicate_zero, List.push_toArray, List.append_toArray, List.nil_append, List.cons_append]
  gi_wp2
  refine wpIn_rangeFunc ?_
  intro fn _
  obtain ⟨W0, hW0⟩ : ∃ W0, w.alloc (.cells #[.slice none 0 0] 125) = W0 := ⟨_, rfl⟩
  have hs0 : W0.heap.size = w.heap.size + 1 := by rw [← hW0]; simp
  have hv0 : W0.heap[w.heap.size]? = some (.cells #[.slice none 0 0] 125 (0, 0)) := by rw [← hW0]; exact World.alloc_heap_new w _
  have hb0 : Below w.heap.size w W0 := by rw [← hW0]; exact (Below.refl _ w).alloc (Nat.le_refl _) _
  rw [hW0]
  obtain ⟨W1, hW1⟩ : ∃ W1, (W0.alloc (.deferred (some []))).alloc (.loop (apR fn (.func (.func 98) #[] #[.pointer (some ⟨c, 0, none⟩)]) w.heap.size W0.heap.size .ready)) = W1 := ⟨_, rfl⟩
  have hold : ∀ k, k < W0.heap.size → W1.heap[k]? = W0.heap[k]? := fun k hk => by
    rw [← hW1]; exact (Below.heap_alloc _ _ k (by simp; omega)).trans (Below.heap_alloc _ _ k hk)
  have hb1 : Below w.heap.size w W1 := by rw [← hW1]; exact (hb0.alloc hb0.size _).alloc (by have := hb0.size; simp; omega) _
  have hs1 : W1.heap.size = W0.heap.size + 2 := by rw [← hW1]; simp
  have hA : ApAt w fn (.func (.func 98) #[] #[.pointer (some ⟨c, 0, none⟩)]) w.heap.size (W0.heap.size + 1) W0.heap.size [] W1 :=
    ⟨⟨_, (hold w.heap.size (by omega)).trans hv0, ⟨rfl, .inl ⟨rfl, rfl⟩⟩⟩,
     by rw [← hW1]; have := World.alloc_heap_new (W0.alloc (.deferred (some []))) (.loop (apR fn (.func (.func 98) #[] #[.pointer (some ⟨c, 0, none⟩)]) w.heap.size W0.heap.size .ready)); rwa [World.size_alloc] at this,
     by rw [← hW1]; exact (Below.heap_alloc _ _ _ (by simp)).trans (World.alloc_heap_new W0 _), hb1⟩
  have hM1 : MapAt W1 b nmV encV M := by
    obtain ⟨es, clock, hb, rest⟩ := hM
    exact ⟨es, clock, (hb1.block b (Z0D hb)).trans hb, rest⟩
  have hm1 : W1.cell? ⟨c, 0, none⟩ = some (.map (some b)) := (hb1.cell (World.block_lt_of_cell? _ _ hm)).trans hm
  refine ⟨W0.heap.size + 1, [{ target := .collected W0.heap.size, args := #[] }], W1, { target := .fn (.func 98) #[.pointer (some ⟨c, 0, none⟩)], args := #[.func (.yield (W0.heap.size + 1)) #[] #[]] }, W1, 98,
    #[.func (.yield (W0.heap.size + 1)) #[] #[], .pointer (some ⟨c, 0, none⟩)], W1, ?_, ?_, fun _ _ => trivial, ?_, (fun h => by cases h), ?_⟩
  · rw [← hW1]; exact run_enterLoop_outer _ _ _ _ _
  · simp [resolve, go_sem]
  · kernel_rfl
  · refine (Zbk 2 (W0.heap.size + 1) c b M (ApAt w fn (.func (.func 98) #[] #[.pointer (some ⟨c, 0, none⟩)]) w.heap.size (W0.heap.size + 1) W0.heap.size)
      (fun pre x W hJ hl => Zca _ w fn _ w.heap.size (W0.heap.size + 1) W0.heap.size (by omega) (by omega) (by omega) (Nat.le_refl _) (by omega) pre x W hJ (by omega)) W1 (Z78 w fn _ _ _ _ _ hb1.size) hm1 hM1 hA (by omega)).mono ?_
    rintro e W2 ⟨⟨v0, rfl⟩, ss, hperm, h2⟩
    obtain ⟨u, hu, hrow⟩ := h2.box
    have hend := run_endLoop (P := Tryz.prog) h2.L (by simp [apR])
    obtain ⟨W3, hW3⟩ : ∃ W3, W2.putObj (W0.heap.size + 1) (.loop { apR fn (.func (.func 98) #[] #[.pointer (some ⟨c, 0, none⟩)]) w.heap.size W0.heap.size .ready with state := .exhausted }) = W3 := ⟨_, rfl⟩
    rw [hW3] at hend
    have hg3 : W2.grownBy W3 (some (W0.heap.size + 1)) := by rw [← hW3]; exact grownBy_putObj_a _ _ _
    have hu3 : W3.heap[w.heap.size]? = some (.cells #[u] 125 (0, 0)) := by rw [← hW3]; exact (World.putObj_heap_other (by omega)).trans hu
    have hK3 : W3.heap[W0.heap.size]? = some (.deferred (some [])) := by rw [← hW3]; exact (World.putObj_heap_other (by omega)).trans h2.K
    have hrow3 := hrow.kept hg3 (ownsRow_ne_a hrow h2.L (fun cur e => by cases e))
    have hb3 : Below w.heap.size w W3 := h2.low.grown hg3 h2.low.size (fun k e => by cases e; omega)
    obtain ⟨hc3, hf3⟩ := cell_of_box_a hu3
    clear hW3
    refine ⟨none, W3, hend, ?_⟩
    gi_wp2
    rw [← hs0]
    refine ⟨by simp, .inl ⟨_, _, rfl, run_takeDeferred hK3, ?_⟩⟩
    exact ⟨_, results_tmp rfl _ _ _, u, ss, rfl, hperm, hrow3.kept (grownBy_putObj_a _ _ _) (ownsRow_ne_a hrow3 hK3 (fun cur e => by cases e)), hb3.grown (grownBy_putObj_a _ _ _) hb3.size (fun k e => by cases e; omega)⟩
theorem Z5s {ν : Type} {encV : ν → Value} (c b : Nat) (M : List (NmD × ν)) (hlM : M.length ≤ 1000) (w : World) (hm : w.cell? ⟨c, 0, none⟩ = some (.map (some b))) (hM : MapAt w b nmV encV M) :
  Calls Tryz.prog 117 #[.slice none 0 0, .func (.func 98) #[] #[.pointer (some ⟨c, 0, none⟩)]] w fun e w' => ∃ (u : Value) (ss : List NmD), e = .returned u ∧ ss.Perm (M.map (·.1)) ∧ (ZH 24 2 u ss.length (ss.flatMap Z1A)).ok w' ∧ Upd [] w w' ∧ ∀ k, u.ownBlock = some k → w.heap.size ≤ k := by
 refine (callsIn_wide.1 (Z6A c b M hlM w hm hM)).mono ?_
 rintro e w' ⟨u, ss, rfl, hp, h, hl⟩
 obtain ⟨h1, h2⟩ := Z8I h
 exact ⟨u, ss, rfl, hp, h1, Below.upd hl, h2⟩
end Go.Proofs.YtoaifondpohniaaGreat
namespace Go.Proofs.YtoaifondpohniaaGreat
open Go.RowKit Go.Sort
def Z3x (a b : Int) : Int := if a < b then -1 else if a > b then 1 else 0
theorem Z9o (a : Int) (W : World) : Calls Tryz.prog 109 #[.int .i64 a] W fun e w' => e = .returned (.bool false) ∧ w' = W := by
 go_enter Tryz.func109, Tryz.ntmps109
 go_wp2
 go_ret
 exact ⟨by simp, rfl⟩
theorem Z6f (a b : Int) (W : World) : Calls Tryz.prog 88 #[.int .i64 a, .int .i64 b] W fun e w' => e = .returned (.int .i64 (Z3x a b)) ∧ w' = W := by
 have hn := fun a W => Z9o a W
 go_enter Tryz.func88, Tryz.ntmps88
 go_wp2_with (go_at_call 109; refine (hn _ _).mono ?_; rintro e w' ⟨rfl, rfl⟩)
 all_goals (go_ret; exact ⟨by unfold Z3x; split <;> first | rfl | (split <;> first | rfl | omega) | omega, rfl⟩)
def or2 (a b : Int) : Int := if a = 0 then b else a
theorem Zcy (a b : Int) (B : Nat) (W : World) (h0 : W.cell? ⟨B, 0, none⟩ = some (.int .i64 a)) (h1 : W.cell? ⟨B, 1, none⟩ = some (.int .i64 b)) : Calls Tryz.prog 87 #[.slice (some ⟨B, 0, none⟩) 2 2] W fun e w' => e = .returned (.int .i64 (or2 a b)) ∧ w' = W := by
 go_enter Tryz.func87, Tryz.ntmps87
 go_wp2
 refine wp_loop_rounds 3 ?_
 rw [rounds_succ]
 go_wp2
 ·go_ret
  exact ⟨by unfold or2; simp_all, rfl⟩
 ·rw [rounds_succ]
  go_wp2
  ·go_ret
   exact ⟨by unfold or2; simp_all, rfl⟩
  ·rw [rounds_succ]
   go_wp2
   go_ret
   exact ⟨by unfold or2; simp_all, rfl⟩
end Go.Proofs.YtoaifondpohniaaGreat
namespace Go.Proofs.YtoaifondpohniaaGreat
open Go.RowKit
def Gr (w w' : World) : Prop := ∃ q os', w' = Sort.grow (w.drewN q) os'
theorem Gr.refl (w : World) : Gr w w := ⟨0, #[], by simp [Sort.grow, World.drewN]⟩
theorem Gr.alloc (w : World) (o : Obj) : Gr w (w.alloc o) := ⟨0, #[o], by rw [Sort.alloc_eq_grow]; rfl⟩
theorem Gr.drew (w : World) : Gr w w.drew := ⟨1, #[], by rw [Sort.grow_empty]; rfl⟩
theorem Gr.trans {a b c : World} (h : Gr a b) (k : Gr b c) : Gr a c := by
 obtain ⟨q, os, rfl⟩ := h
 obtain ⟨q2, os2, rfl⟩ := k
 exact ⟨q + q2, os ++ os2, by simp [Sort.grow, World.drewN, Array.append_assoc, Nat.add_assoc]⟩
section
variable {P : Program} {ops : Array Oper} {n : Nat} {f : Nat → Value} {w w0 : World} {dst : Option Tmp} {ty : TypeId} {pos : String} {aft : Array Edge} {gd : Option (Nat × Bool)} {K : Act → World → Prop} {Q : Exit → Act → World → Prop} {G : List Ck}
theorem ZbM {T : TypeId} {x : Operand} {v : Value} {vs : List Value} {d : Nat} (hd : dst = some d) (H : Sat w0 G w) (hx : ev n f x = v) (hvs : v.cells = ⟨vs⟩)
  (k : ∀ b w', Sat w0 (G ++ [Z0 b T vs]) w' → Gr w w' → K (fr n (upd f d (.pointer (some ⟨b, 0, none⟩)))) w') : WO P ⟨dst, .box T x, ty, pos, aft, gd⟩ K Q n f w := by
 refine Z4i hd (e_box hx) (k _ _ ?_ (Gr.alloc _ _))
 rw [hvs]
 exact H.add ⟨rfl, rfl, rfl, by simp⟩ (fun b hb => Below.heap_alloc w _ b hb) (Z1a w _) (fun b hb => Nat.le_of_eq hb.symm)
theorem Zbb {id : Nat} {l : List Oper} (H : Sat w0 G w) (Gs : List Ck) (m : Nat) (hl : l.length = m) (hm : P.follows .mixedOrders = true) (hs : Sat w0 G w.drew → Sat w0 Gs w.drew) (k : ∀ w1, Sat w0 G w1 → Sat w0 Gs w1 → Gr w w1 → WH P l.toArray Q (Sat w0 Gs) m (Array.replicate m false) n f w1) :
  WC P (Code.region id l.toArray true) Q n f w := by
 subst hl
 exact ⟨wp_region_held (S := Sat w0 Gs) hm (by simpa using (k w.drew H.drew (hs H.drew) (Gr.drew _)).h)⟩
theorem Z6C {T e : TypeId} {size bytes N : Nat} {parts : Array (Nat × Operand)} {d : Nat} (hd : dst = some d) (H : Sat w0 G w) (hR : Z4X P T e size bytes = true) {z : Value} (hz : (P.info? e).bind (·.zero) = some z) {pvs : List (Nat × Value)} {vs : List Value}
  (hp : (parts.map fun q => (q.1, ev n f q.2)).toList = pvs) (hf : Instr.fill (fun j => some (j * size, size)) ((Array.range (N * size)).map fun q => z.cells[q % z.cells.size]!) pvs = some ⟨vs⟩) (hl : Nat.beq vs.length (N * size) = true) (hN : Nat.blt 0 N = true) (hsz : Nat.ble (N * size) 16777216 = true)
  (kk : ∀ b w', Sat w0 (G ++ [ZH e size (.slice (some ⟨b, 0, none⟩) N N) N vs]) w' → Gr w w' → K (fr n (upd f d (.slice (some ⟨b, 0, none⟩) N N))) w') : WO P ⟨dst, .buildSlice T N parts, ty, pos, aft, gd⟩ K Q n f w := by
 obtain ⟨i, z', ht, hi, hz', hs, hby, hzs, h0⟩ := Z3N hR
 have hl := Nat.eq_of_beq_eq_true hl
 have hsz := Nat.le_of_ble_eq_true hsz
 have hN : 0 < N := by simpa [Nat.blt_eq] using hN
 have hpos : 0 < N * size := Nat.mul_pos hN h0
 have hr : (execOp (ev n f) ⟨dst, .buildSlice T N parts, ty, pos, aft, gd⟩).run P w = .ok (.value (.slice (some ⟨w.heap.size, 0, none⟩) N N)) (w.alloc (.cells ⟨vs⟩ e (0, 0))) := by
  have hp2 : (parts.map fun q => (q.1, ev n f q.2)).toList = pvs := hp
  simp only [execOp, Instr.buildSlice]
  have hzv := Z3g (P := P) (w := w) hz
  have h1 : ¬ 16777216 < N * size := by omega
  have h2 : ¬ N * size = 0 := by omega
  simp only [hp2]
  simp [run_underlying ht, sizeOf, typeInfo, hi, hs, Result.andThen, h1, h2, hzv, hf, newRow]
 refine Z4i hd hr (kk _ _ (H.add ⟨rfl, rfl, rfl, by simp⟩ (fun b hb => Below.heap_alloc w _ b hb) ?_ (fun b hb => ?_)) (Gr.alloc _ _))
 ·refine ⟨hl, .inr ⟨w.heap.size, N, ⟨vs⟩, rfl, Nat.zero_le _, Z1a w _, Nat.le_refl _, ?_, by simpa using hl, ?_⟩⟩
  ·have := Nat.le_mul_of_pos_right N h0
   unfold maxLen; omega
  ·rw [← hl]; simp
 ·simp [ZH, Value.ownBlock] at hb; omega
end
end Go.Proofs.YtoaifondpohniaaGreat
