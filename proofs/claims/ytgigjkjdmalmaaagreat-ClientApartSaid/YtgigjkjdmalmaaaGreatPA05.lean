/- WHAT IS PROVED: contracts and plain laws of Obj, Sh2, BookD, StrB, RowSt, Ins. Conditions: stated with each. -/
import Derived.Test.YtgigjkjdmalmaaaGreatPA02
import Derived.Test.YtgigjkjdmalmaaaGreatPA03
import Derived.Test.YtgigjkjdmalmaaaGreatPA04
set_option maxHeartbeats 4000000
set_option maxRecDepth 100000
namespace Go.Proofs.YtgigjkjdmalmaaaGreat
open Go.RowKit
section
variable {w0 w w' : World} {G G' L L' R : List Ck}
theorem Sat.cast (H : Sat w0 G w) (h : G = G') : Sat w0 G' w := h ▸ H
theorem Sat.turnL (H : Sat w0 G w) (is js : List Nat) (hn : (is ++ js).Pairwise (fun a b => Nat.beq a b = false)) (hi : (is.filterMap fun i => G[i]?) = L) (hj : (js.filterMap fun i => G[i]?) = R)
  (h : Sat w (L' ++ [Zb w (ZF L).fp]) w') : Sat w0 (L' ++ R) w' := by
 have H1 : Sat w0 (L ++ R) w := by
  have := H.pick (is ++ js) hn
  rwa [List.filterMap_append, hi, hj] at this
 have hr : (Zb w (ZF L).fp).ok w' := h.all _ (by simp)
 have hd1 := List.pairwise_append.1 H1.dis
 have hd2 := List.pairwise_append.1 h.dis
 have far : ∀ B ∈ R, ∀ b, B.fp b → b < w.heap.size ∧ ¬ (ZF L).fp b := by
  intro B hB b hb
  refine ⟨B.lt (H1.all B (List.mem_append_right _ hB)) b hb, ?_⟩
  rintro ⟨A, hA, hf⟩
  exact hd1.2.2 A hA B hB b hf hb
 refine ⟨H.ext.trans h.ext, ?_, List.pairwise_append.2 ⟨hd2.1, hd1.2.1, ?_⟩⟩
 ·intro B hB
  rcases List.mem_append.1 hB with hB | hB
  ·exact h.all B (List.mem_append_left _ hB)
  ·refine B.stay (H1.all B (List.mem_append_right _ hB)) fun b hb => ?_
   have := far B hB b hb
   exact hr b this.1 this.2
 ·intro A hA B hB b h1 h2
  exact hd2.2.2 A hA _ (List.mem_singleton.2 rfl) b h1 (far B hB b h2)
theorem Sat.ok (H : Sat w0 G w) (is : List Nat) (hn : is.Pairwise (fun a b => Nat.beq a b = false)) (hi : (is.filterMap fun i => G[i]?) = L) : (ZF L).ok w := H.fin is hn hi
theorem Sat.own (H : Sat w0 G w) (is : List Nat) (hn : is.Pairwise (fun a b => Nat.beq a b = false)) (hi : (is.filterMap fun i => G[i]?) = L) : Sat w (L ++ [Zb w (ZF L).fp]) w := Sat.start L (H.fin is hn hi)
end
section
variable {P : Program} {Q : Exit → Act → World → Prop} {n : Nat} {f : Nat → Value} {w0 w w' : World} {G : List Ck} {dst : Option Tmp} {ty : TypeId} {pos : String} {aft : Array Edge} {gd : Option (Nat × Bool)} {K : Act → World → Prop}
theorem ZQ {T : TypeId} {x y : Operand} (hd : dst = none) (H : Sat w0 G w) (i : Nat) {b q : Nat} {E : TypeId} {cs vs cs' : List Value} {u : Value}
  (hi : G[i]? = some (Z5 b E cs)) (hx : ev n f x = .pointer (some ⟨b, q, none⟩)) (hy : ev n f y = u) (hu : u.cells = ⟨vs⟩) (hN : P.cellsOf T = vs.length) (h0 : 0 < vs.length) (ho : q + vs.length ≤ cs.length) (h1 : vs.all (·.oneCell') = true) (hs : Z0z cs q vs = cs')
  (k : ∀ w', Sat w0 (G.set i (Z5 b E cs')) w' → K (fr n f) w') : WO P ⟨dst, .store T x y, ty, pos, aft, gd⟩ K Q n f w := Z1N hd H i hi hx hy hu hN h0 ho h1 (by rw [hs]; exact k)
end
section
variable {P : Program} {Q Q' : Exit → Act → World → Prop} {n : Nat} {f : Nat → Value} {w w0 w' : World} {G : List Ck} {o : Oper} {ops : Array Oper}
theorem ztn {y : Code} (h : WC P y Q' n f w) : Exit.then (y.wp P Q') Q .normal (fr n f) w := h.h
theorem znt {y : Code} (h : WC P y Q' n f w) : WL P ops (Exit.then (y.wp P Q') Q) [] n f w := Zm h.h
theorem zsl {id : Nat} {l : List Oper} {y : Code} (h : WL P l.toArray (Exit.then (y.wp P Q) Q) l n f w) : WC P (Code.seq (Code.region id l.toArray false) y) Q n f w := Zg (Zn h)
theorem Z2n {id : Nat} {l : List Oper} {y : Code} (h : WL P l.toArray (Exit.then (y.wp P Q') Q') l n f w) : WL P ops (Exit.then ((Code.seq (Code.region id l.toArray false) y).wp P Q') Q) [] n f w := znt (zsl h)
theorem zwd {rest : List Oper} (k : ∀ K : Act → World → Prop, (∀ g w', WL P ops Q rest n g w' → K (fr n g) w') → WO P o K Q n f w) (hg : o.guard = none := by exact rfl) : WL P ops Q (o :: rest) n f w := ZE (Z1 hg) k
theorem zxb {next : Act → World → Prop} {ws : List Nat} {F : Nat → Value} {R : (Nat → Value) → World → Nat → Prop} {m : Nat} {id : Nat} (h : Q .normal (fr n f) w) : WC P (Code.exit id) (Exit.then next (Back n ws F R m (Exit.inBlock id Q))) n f w := Z1w (Z0t (Z0H (Z16 h)))
theorem Z3l {d : Nat} {x y : Code} (b : Bool) (hb : b = true) (k : WC P x Q n (upd f d (.bool true)) w) (hf : f d = .bool b := by exact rfl) (he : ev n (upd f d (.bool true)) (.tmp d) = .bool true := by exact rfl) : WC P (Code.cond (.tmp d) x y) Q n f w := Zs d (.bool true) (hf.trans (congrArg Value.bool hb)) (Z0u he k)
theorem Z2G {d : Nat} {x y : Code} (b : Bool) (hb : b = false) (k : WC P y Q n (upd f d (.bool false)) w) (hf : f d = .bool b := by exact rfl) (he : ev n (upd f d (.bool false)) (.tmp d) = .bool false := by exact rfl) : WC P (Code.cond (.tmp d) x y) Q n f w := Zs d (.bool false) (hf.trans (congrArg Value.bool hb)) (ZY he k)
end
section
variable {P : Program} {ops : Array Oper} {S : World → Prop} {Q : Exit → Act → World → Prop} {n : Nat} {f : Nat → Value} {w0 w w' : World} {o : Oper} {G : List Ck} {listed : Array Bool} {fuel : Nat} {B : List Nat}
theorem Z0G (i : Nat) (k : ∀ K : Act → World → Prop, (∀ g w', S w' → (WH P ops Q S fuel (listed.setIfInBounds i true) n g w') → K (fr n g) w') → WO P o K Q n f w) (hi : ops[i]? = some o := by exact rfl) (hr : Region.ready .any ops listed = [i] := by kernel_rfl) (hg : o.guard = none := by exact rfl) : WH P ops Q S (fuel + 1) listed n f w := Z1a i hi hr (Z1 hg) k
theorem zhf (h : Q .normal (fr n f) w) (hr : Region.ready .any ops listed = [] := by kernel_rfl) : WH P ops Q S fuel listed n f w := Z0E hr h
theorem zkp (i : Nat) (HS : S w) (d : Nat) (v : Value) (k : WK P ops Q S (Z1f B) fuel (listed.setIfInBounds i true) n (upd f d v) w) (hi : ops[i]? = some o := by exact rfl) (hs : Region.noSelect ops = true := by kernel_rfl) (hf : Region.free .any ops listed i = true := by kernel_rfl) (hr : (Region.ready .any ops listed).contains i = true := by kernel_rfl) (hQ : ∀ c a w, Q (.panic c) (a.put o.dst v) w → Q (.panic c) a w := by exact fun _ _ _ h => h)
  (hg : o.guard = none := by exact rfl) (hiB : Z1f B i = false := by exact rfl) (hd : o.dst = some d := by exact rfl) (he : ∀ w, (execOp (ev n f) o).run P w = .ok (.value v) w := by exact fun _ => by kernel_rfl) : WK P ops Q S (Z1f B) (fuel + 1) listed n f w := ZS i hi hs hf hr hQ HS (Z1 hg) hiB hd he k
theorem zkv (i : Nat) (HS : S w) (d : Nat) (v : Value) (k : WK P ops Q S (Z1f B) fuel (listed.setIfInBounds i true) n (upd f d v) w) (hi : ops[i]? = some o := by exact rfl) (hs : Region.noSelect ops = true := by kernel_rfl) (hf : Region.free .any ops listed i = true := by kernel_rfl) (hr : (Region.ready .any ops listed).contains i = true := by kernel_rfl) (hQ : ∀ c a w, Q (.panic c) (a.put o.dst v) w → Q (.panic c) a w := by exact fun _ _ _ h => h)
  (hg : o.guard = none := by exact rfl) (hiB : Z1f B i = false := by exact rfl) (hB : Z6G ops B i = true := by kernel_rfl) (hd : o.dst = some d := by exact rfl) (he : ∀ w, S w → (execOp (ev n f) o).run P w = .ok (.value v) w := by exact fun _ _ => by kernel_rfl) : WK P ops Q S (Z1f B) (fuel + 1) listed n f w := Z19 i hi hs hf hr hQ HS (Z1 hg) hiB hB hd he k
theorem Z6I (i : Nat) (k : ∀ K : Act → World → Prop, (∀ g w', S w' → (WK P ops Q S (Z1f B) fuel (listed.setIfInBounds i true) n g w') → K (fr n g) w') → WO P o K Q n f w) (hi : ops[i]? = some o := by exact rfl) (hr : Region.ready .any ops listed = [i] := by kernel_rfl) (hg : o.guard = none := by exact rfl) (hiB : Z1f B i = false := by exact rfl) : WK P ops Q S (Z1f B) (fuel + 1) listed n f w := Z2L i hi hr (Z1 hg) hiB k
theorem zqs {Q : Exit → Act → World → Prop} {id : Nat} {l : List Oper} (H : Sat w0 G w) (k : WQ P l.toArray (Sat w0 G) (fun a' => ∀ w', Sat w0 G w' → Q .normal a' w') l n f) (hm : P.follows .mixedOrders = true := by kernel_rfl) (hB : Region.lexB .any l.toArray = true := by kernel_rfl) : WC P (Code.region id l.toArray true) Q n f w := Z1s H hm hB k
end
section
variable {P : Program} {Q : Exit → Act → World → Prop} {n : Nat} {f : Nat → Value} {w0 w w' : World} {G : List Ck} {dst : Option Tmp} {ty : TypeId} {pos : String} {aft : Array Edge} {gd : Option (Nat × Bool)} {K : Act → World → Prop} {o : Oper} {ops : Array Oper} {rest : List Oper}
theorem zds {T : TypeId} {x y : Operand} {b q : Nat} {E : TypeId} {cs : List Value} {u : Value} (vs cs' : List Value) (H : Sat w0 G w) (i : Nat) (k : ∀ w', Sat w0 (G.set i (Z5 b E cs')) w' → K (fr n f) w') (hi : G[i]? = some (Z5 b E cs) := by exact rfl) (hx : ev n f x = .pointer (some ⟨b, q, none⟩) := by exact rfl) (hy : ev n f y = u := by exact rfl) (hu : u.cells = ⟨vs⟩ := by exact rfl) (hd : dst = none := by exact rfl) (hN : P.cellsOf T = vs.length := by kernel_rfl) (h0 : 0 < vs.length := by exact Nat.le_of_ble_eq_true (by kernel_rfl)) (ho : q + vs.length ≤ cs.length := by exact Nat.le_of_ble_eq_true (by kernel_rfl)) (h1 : vs.all (·.oneCell') = true := by kernel_rfl) (hs : Z0z cs q vs = cs' := by kernel_rfl) :
  WO P ⟨dst, .store T x y, ty, pos, aft, gd⟩ K Q n f w := ZQ hd H i hi hx hy hu hN h0 ho h1 hs k
theorem Z6f {T : TypeId} {x y : Operand} {b q : Nat} {E : TypeId} {cs : List Value} {u : Value} (vs : List Value) (H : Sat w0 G w) (i : Nat) (k : ∀ w', Sat w0 (G.set i (Z5 b E vs)) w' → K (fr n f) w') (hi : G[i]? = some (Z5 b E cs) := by exact rfl) (hx : ev n f x = .pointer (some ⟨b, q, none⟩) := by exact rfl) (hy : ev n f y = u := by exact rfl) (hu : u.cells = ⟨vs⟩ := by exact rfl) (hd : dst = none := by exact rfl) (hN : P.cellsOf T = vs.length := by kernel_rfl) (h0 : 0 < vs.length := by exact Nat.le_of_ble_eq_true (by kernel_rfl)) (ho : q + vs.length ≤ cs.length := by exact Nat.le_of_ble_eq_true (by kernel_rfl)) (h1 : vs.all (·.oneCell') = true := by kernel_rfl) (hs : Z0z cs q vs = vs := by kernel_rfl) :
  WO P ⟨dst, .store T x y, ty, pos, aft, gd⟩ K Q n f w := ZQ hd H i hi hx hy hu hN h0 ho h1 hs k
theorem zda {T : TypeId} {d : Nat} (zs : List Value) (H : Sat w0 G w) (k : ∀ b w', Sat w0 (G ++ [Z5 b T zs]) w' → K (fr n (upd f d (.pointer (some ⟨b, 0, none⟩)))) w') (hz : (P.info? T).bind (·.zero) = some (.agg ⟨zs⟩) := by kernel_rfl) (hd : dst = some d := by exact rfl) : WO P ⟨dst, .alloc T, ty, pos, aft, gd⟩ K Q n f w := Z0v hd H hz rfl k
theorem zdb {T : TypeId} {x : Operand} {v : Value} {d : Nat} (vs : List Value) (H : Sat w0 G w) (k : ∀ b w', Sat w0 (G ++ [Z5 b T vs]) w' → K (fr n (upd f d (.pointer (some ⟨b, 0, none⟩)))) w') (hx : ev n f x = v := by exact rfl) (hvs : v.cells = ⟨vs⟩ := by exact rfl) (hd : dst = some d := by exact rfl) : WO P ⟨dst, .box T x, ty, pos, aft, gd⟩ K Q n f w := Z0Y hd H hx hvs k
theorem Z5A {T : TypeId} {N : Nat} {parts : Array (Nat × Operand)} {d : Nat} (e size bytes : Nat) (z : Value) (pvs : List (Nat × Value)) (vs : List Value) (H : Sat w0 G w) (kk : ∀ b w', Sat w0 (G ++ [Zd e size (.slice (some ⟨b, 0, none⟩) N N) N vs]) w' → K (fr n (upd f d (.slice (some ⟨b, 0, none⟩) N N))) w') (hd : dst = some d := by exact rfl) (hR : Z2M P T e size bytes = true := by kernel_rfl) (hz : (P.info? e).bind (·.zero) = some z := by kernel_rfl)
  (hp : (parts.map fun q => (q.1, ev n f q.2)).toList = pvs := by kernel_rfl) (hf : Instr.fill (fun j => some (j * size, size)) ((Array.range (N * size)).map fun q => z.cells[q % z.cells.size]!) pvs = some ⟨vs⟩ := by kernel_rfl) (hl : Nat.beq vs.length (N * size) = true := by kernel_rfl) (hN : Nat.blt 0 N = true := by exact rfl) (hsz : Nat.ble (N * size) 16777216 = true := by exact rfl) : WO P ⟨dst, .buildSlice T N parts, ty, pos, aft, gd⟩ K Q n f w := ZP hd H hR hz hp hf hl hN hsz kk
theorem zdc {g : FuncId} {args : Array Value} {R : Ending → World → Prop} (d : Nat) (hc : Calls P g args w R) (k : ∀ e w'', R e w'' → ∃ v, e = .returned v ∧ K (fr n (upd f d v)) w'') (hd : o.dst = some d := by exact rfl) (hr : (execOp (ev n f) o).run P w = .ok (.enter g args) w := by kernel_rfl) : WO P o K Q n f w := ZC hd hr hc k
theorem zdq {g : FuncId} {args : Array Value} {v : Value} (d : Nat) (hc : Calls P g args w fun e w'' => e = .returned v ∧ Upd [] w w'') (H : Sat w0 G w) (k : ∀ w'', Sat w0 G w'' → K (fr n (upd f d v)) w'') (hd : o.dst = some d := by exact rfl) (hr : (execOp (ev n f) o).run P w = .ok (.enter g args) w := by kernel_rfl) : WO P o K Q n f w := ZC hd hr hc fun e w'' h => ⟨v, h.1, k w'' (H.keepU h.2)⟩
theorem zwN {b t : Nat} {cs : List Value} {E : TypeId} {fz : Nat × Nat} {T : TypeId} {x : Operand} (d : Nat) (vs : List Value) (hb : w.heap[b]? = some (.cells ⟨cs⟩ E fz)) (k : WL P ops Q rest n (upd f d (.agg ⟨vs⟩)) w) (hx : ev n f x = .pointer (some ⟨b, t, none⟩) := by exact rfl) (hT : Z3Q P T = true := by kernel_rfl) (hN : P.cellsOf T = vs.length := by kernel_rfl) (h0 : 0 < vs.length := by exact Nat.le_of_ble_eq_true (by kernel_rfl)) (hv : (cs.drop t).take vs.length = vs := by kernel_rfl) (hg : gd = none := by exact rfl) (hd : dst = some d := by exact rfl) : WL P ops Q (⟨dst, .load T x, ty, pos, aft, gd⟩ :: rest) n f w := Z3 (Z1 hg) hd (ZJ hx hT hN h0 hb hv) k
theorem zwi {o : Oper} (d : Nat) (z : Int) (k : WL P ops Q rest n (upd f d (.int .i64 z)) w) (h : -9223372036854775808 ≤ z ∧ z ≤ 9223372036854775807 := by omega) (hr : (execOp (ev n f) o).run P w = .ok (.value (.int .i64 (IntKind.i64.wrap z))) w := by kernel_rfl) (hg : o.guard = none := by exact rfl) (hd : o.dst = some d := by exact rfl) : WL P ops Q (o :: rest) n f w := Z3 (Z1 hg) hd (Z05 hr (IntWalk.i64_in _ h)) k
theorem zw1 {p : Addr} {T : TypeId} {x : Operand} (d : Nat) (v : Value) (hc : w.cell? p = some v) (k : WL P ops Q rest n (upd f d v) w) (hx : ev n f x = .pointer (some p) := by exact rfl) (hT : Z3o P T = true := by kernel_rfl) (hg : gd = none := by exact rfl) (hd : dst = some d := by exact rfl) : WL P ops Q (⟨dst, .load T x, ty, pos, aft, gd⟩ :: rest) n f w := Z3 (Z1 hg) hd (Zj hx hT hc) k
end
section
variable {P : Program} {fn : Func} {R : Ending → World → Prop} {n : Nat} {f : Nat → Value} {w : World}
theorem ze1 {t : Nat} (v : Value) (h : R (.returned v) w) (hr : fn.results = #[.tmp t] := by exact rfl) (h1 : ev n f (.tmp t) = v := by exact rfl) : bodyPost P fn R .ret (fr n f) w := Z0J hr (ZI h1) h
end
theorem ja {A : Sort _} {a b : A} (h : a = b := by simp only [List.length_append, List.flatMap_append] <;> rfl) : a = b := h
theorem Sat.ct {w0 w : World} {G : List Ck} {Y : Ck} (H : Sat w0 G w) (i : Nat) (hi : G[i]? = some Y) (X : Ck) (e : Y = X) : Sat w0 (G.set i X) w := by
 have h : G.set i X = G := by
  subst e
  refine List.ext_getElem? fun j => ?_
  rw [List.getElem?_set]
  split
  ·rename_i hj
   subst hj
   obtain ⟨h1, _⟩ := List.getElem?_eq_some_iff.1 hi
   rw [if_pos h1, hi]
  ·rfl
 rw [h]; exact H
theorem zs {ws : List Nat} {f F : Nat → Value} (h : Z4O ws f F := by repeat (first | exact ZV | exact Z0N | refine Z6 rfl ?_ | refine Z1i rfl ?_)) : Z4O ws f F := h
section
variable {w0 w w' : World} {G L : List Ck}
theorem Sat.pk (h : Sat w0 G w) (is : List Nat) (hn : is.Pairwise (fun a b => Nat.beq a b = false) := by decide) : Sat w0 (is.filterMap fun i => G[i]?) w := h.pick is hn
theorem Sat.fn (H : Sat w0 G w) (is : List Nat) (hn : is.Pairwise (fun a b => Nat.beq a b = false) := by decide) (hL : (is.filterMap fun i => G[i]?) = L := by rfl) : (ZF L).ok w := H.fin is hn hL
theorem Sat.tl (H : Sat w0 G w) (L' : List Ck) (is js : List Nat) (h : Sat w (L' ++ [Zb w (ZF L).fp]) w') (ps : List Nat) (hn : (is ++ js).Pairwise (fun a b => Nat.beq a b = false) := by decide) (hi : (is.filterMap fun i => G[i]?) = L := by kernel_rfl) (hp : ps.Pairwise (fun a b => Nat.beq a b = false) := by decide) : Sat w0 (ps.filterMap fun i => (L' ++ (js.filterMap fun i => G[i]?))[i]?) w' := (Sat.turnL (L' := L') H is js hn hi rfl h).pick ps hp
end
structure Z4 where
 p : Int
 s : List UInt8
 deriving DecidableEq
def Zc (x : Z4) : Value := .agg #[.int .i64 x.p, Zu x.s]
theorem Z5t (w : World) (x y : Z4) : (Op.equal 125 (Zc x) (Zc y)).run Tryz.prog w = .ok (decide (x = y)) w := by
 simp only [Op.equal, Op.maxDepth, Zc, Zu]
 simp [go_sem]
 obtain ⟨x1, x2⟩ := x
 obtain ⟨y1, y2⟩ := y
 have := Z5v x2 y2
 by_cases h1 : x1 = y1 <;> by_cases h2 : x2 = y2 <;> simp_all
theorem Z3L (w : World) (em : Bool) (x : Z4) : (Instr.checkKey em 10000 125 (Zc x)).run Tryz.prog w = .ok () w := by
 have h : ∀ n, (Instr.checkKey em (n + 2) 125 (Zc x)).run Tryz.prog w = .ok () w := fun n => by simp [Instr.checkKey, Zc, Zu, go_sem]
 exact h 9998
theorem Z3j : KeyTy Tryz.prog 125 Zc := KeyTy.deep (by kernel_rfl) Z3L Z5t (by
 intro a
 simp [Zc, Zu, Instr.sameBits, Z68])
def Zk (l : List Z4) : List (Z4 × Int) := l.zipIdx.map fun x => (x.1, (x.2 : Int) + 1)
def Za (l : List Z4) (x : Z4) : Int := ((l.idxOf? x).map fun i => (i : Int) + 1).getD 0
def Ze (l : List Z4) (x : Z4) : List Z4 := if x ∈ l then l else l ++ [x]
def BookAt (w : World) (b mb : Nat) (l : List Z4) : Prop := w.heap[b]? = some (.cells #[.map (some mb)] 108) ∧ b ≠ mb ∧ MapAt w mb Zc (Value.int .i64) (Zk l)
theorem Z2W (l : List Z4) : (Zk l).map (·.1) = l := by
 simp [Zk, List.map_map, Function.comp_def]
theorem Z5V (l : List Z4) (i : Nat) : (Zk l)[i]? = (l[i]?).map fun x => (x, (i : Int) + 1) := by
 simp [Zk, List.getElem?_map, List.getElem?_zipIdx, Function.comp_def]
theorem Z2U (l : List Z4) (x : Z4) : Zq (Zk l) x = (l.idxOf? x).map fun i => (i : Int) + 1 := by
 rw [Z3G, Z2W]
 cases h : l.idxOf? x with
 | none => simp
 | some i =>
  obtain ⟨h1, _⟩ := List.idxOf?_eq_some_iff.1 h
  simp [Z5V, List.getElem?_eq_getElem h1]
theorem Z5k (l : List Z4) (x : Z4) (h : x ∉ l) : Z1P (Zk l) x ((l.length : Int) + 1) = Zk (l ++ [x]) := by
 unfold Z1P
 rw [Z2W, if_neg h]
 simp [Zk, List.zipIdx_append]
theorem Z5e (l : List Z4) : (Zk l).length = l.length := by simp [Zk]
theorem BookAt.upd {w w' : World} {b mb : Nat} {l : List Z4} {D : List Nat} (h : BookAt w b mb l) (hu : Upd D w w') (h1 : b ∉ D) (h2 : mb ∉ D) : BookAt w' b mb l := ⟨hu.at h.1 h1, h.2.1, h.2.2.upd hu h2⟩
theorem BookAt.lt {w : World} {b mb : Nat} {l : List Z4} (h : BookAt w b mb l) : b < w.heap.size ∧ mb < w.heap.size := ⟨Z0Z h.1, h.2.2.lt⟩
theorem Z46 {l : List Z4} {x : Z4} (h : x ∉ l) : Za l x = 0 := by
 have : l.idxOf? x = none := List.idxOf?_eq_none_iff.2 h
 simp [Za, this]
theorem Z4C {l : List Z4} {x : Z4} (h : x ∈ l) : 1 ≤ Za l x ∧ Za l x ≤ l.length := by
 cases hi : l.idxOf? x with
 | none => exact absurd h (List.idxOf?_eq_none_iff.1 hi)
 | some i =>
  obtain ⟨h1, _⟩ := List.idxOf?_eq_some_iff.1 hi
  simp [Za, hi]; omega
theorem Z2m {l : List Z4} {x : Z4} (h : x ∈ l) : Ze l x = l := if_pos h
theorem Z1t (l : List Z4) (x : Z4) : (Ze l x).length ≤ l.length + 1 := by unfold Ze; split <;> simp
section
variable {P : Program} {n : Nat} {f : Nat → Value} {w : World} {dst : Option Tmp} {ty : TypeId} {pos : String} {aft : Array Edge} {gd : Option (Nat × Bool)}
theorem Z42 {S D e : TypeId} {x : Operand} {v : Value} {s : List UInt8} (hs : P.underlying S = some (.slice e)) (he : P.underlying e = some (.int .u8)) (hd : P.underlying D = some .string) (hx : ev n f x = v) (hb : BytesAt w v s) :
  (execOp (ev n f) ⟨dst, .convert S D x, ty, pos, aft, gd⟩).run P w = .ok (.value (Zu s)) w := by
 simp [execOp, hx, Z2o hb hs he hd, Result.andThen]
theorem Z4U {T U : TypeId} {x y : Operand} (a b : List UInt8) (hx : ev n f x = Zu a) (hy : ev n f y = Zu b) :
  (execOp (ev n f) ⟨dst, .binOp .eql T x y U, ty, pos, aft, gd⟩).run P w = .ok (.value (.bool (decide (a = b)))) w := by
 have : Op.stringOp .eql ⟨a.toArray⟩ ⟨b.toArray⟩ = pure (.bool (decide (a = b))) := by
  simp only [Op.stringOp, ByteArray.toList_mk]
  congr 2
  rw [Bool.eq_iff_iff]; simp
 simp [execOp, hx, hy, Zu, binOp, eqGuard, this]
end
section
variable {P : Program} {n : Nat} {f : Nat → Value} {w w' : World} {dst : Option Tmp} {ty : TypeId} {pos : String} {aft : Array Edge} {gd : Option (Nat × Bool)} {w0 : World} {G : List Ck} {K : Act → World → Prop} {Q : Exit → Act → World → Prop}
theorem Z30 (cs : List Value) (o : Nat) (vs : List Value) (h : o + vs.length ≤ cs.length) : (Z0z cs o vs).length = cs.length := by
 simp only [Z0z, List.length_append, List.length_take, List.length_drop]; omega
theorem Z4c (cs : List Value) (o : Nat) (vs : List Value) (m : Nat) (h : o + vs.length ≤ m) (hm : m ≤ cs.length) : (Z0z cs o vs).take m = Z0z (cs.take m) o vs := by
 unfold Z0z
 rw [List.take_append, List.take_of_length_le (by rw [List.length_append, List.length_take]; omega), List.take_take, Nat.min_eq_left (by omega), List.length_append, List.length_take, Nat.min_eq_left (by omega), List.drop_take]
theorem Z5p {e size k c g o : Nat} {v : Value} {xs vs : List Value} (h : (Zd e size v k xs).ok w) (hv : v = .slice (some ⟨g, 0, none⟩) k c) {T : TypeId} {x y : Operand} {u : Value} (hx : ev n f x = .pointer (some ⟨g, o, none⟩)) (hy : ev n f y = u) (hu : u.cells = ⟨vs⟩) (hN : P.cellsOf T = vs.length) (h0 : 0 < vs.length) (ho : o + vs.length ≤ xs.length) (h1 : vs.all (·.oneCell') = true) :
  ∃ w', (execOp (ev n f) ⟨dst, .store T x y, ty, pos, aft, gd⟩).run P w = .ok .skip w' ∧ (Zd e size v k (Z0z xs o vs)).ok w' ∧ Ext w w' ∧ ∀ b, b ≠ g → w'.heap[b]? = w.heap[b]? := by
 obtain ⟨hl, h⟩ := h
 rcases h with ⟨h2, _⟩ | ⟨g', cap, cur, h2, hb, hg, hc, hm, hcs, ht⟩
 ·rw [hv] at h2; cases h2
 rw [hv] at h2
 obtain ⟨rfl, rfl⟩ : g = g' ∧ c = cap := by simpa using h2
 have hxl : xs.length ≤ cur.toList.length := by rw [← ht, List.length_take]; exact Nat.min_le_right ..
 obtain ⟨w', hr, hb', he, hk⟩ := Z35 (P := P) (dst := dst) (ty := ty) (pos := pos) (aft := aft) (gd := gd) (cs := cur.toList) hx hy hu hN h0 (by simpa using hg) (by omega) (fun v hv => List.all_eq_true.1 h1 v hv)
 refine ⟨w', hr, ⟨by rw [Z30 _ _ _ ho]; exact hl, .inr ⟨g, c, _, hv, hb, hb', hc, hm, ?_, ?_⟩⟩, he, hk⟩
 ·show (Z0z cur.toList o vs).length = _
  rw [Z30 _ _ _ (by omega)]; simpa using hcs
 ·show (Z0z cur.toList o vs).take (k * size) = _
  rw [Z4c _ _ _ _ (by omega) (by rw [← hl]; exact hxl), ht]
theorem Z4z {e size k c g o : Nat} {v : Value} {xs vs : List Value} {T : TypeId} {x y : Operand} {u : Value} (hd : dst = none) (H : Sat w0 G w) (i : Nat) (hi : G[i]? = some (Zd e size v k xs)) (hv : v = .slice (some ⟨g, 0, none⟩) k c) (hx : ev n f x = .pointer (some ⟨g, o, none⟩)) (hy : ev n f y = u) (hu : u.cells = ⟨vs⟩) (hN : P.cellsOf T = vs.length) (h0 : 0 < vs.length) (ho : o + vs.length ≤ xs.length) (h1 : vs.all (·.oneCell') = true)
  {xs' : List Value} (hxs : Z0z xs o vs = xs') (k' : ∀ w', Sat w0 (G.set i (Zd e size v k xs')) w' → K (fr n f) w') : WO P ⟨dst, .store T x y, ty, pos, aft, gd⟩ K Q n f w := by
 obtain ⟨w', hr, hok, he, hk⟩ := Z5p (P := P) (dst := dst) (ty := ty) (pos := pos) (aft := aft) (gd := gd) (H.at i hi) hv hx hy hu hN h0 ho h1
 subst hxs
 refine Z3w hd hr (k' w' (H.set i hi he (fun b _ hb => hk b fun e => hb ?_) hok fun b hb => .inl hb))
 show v.ownBlock = some b
 rw [hv, e]; rfl
end
section
variable {α : Type} {w W : World} {v : Value} {b o q : Nat}
theorem Z4g {vs : List Value} (h : Z1F w ⟨b, o, none⟩ vs) (d : Nat) {u : Value} (hu : vs[d]? = some u) (hq : q = o + d) : w.cell? ⟨b, q, none⟩ = some u := by
 have := h d u hu
 rw [Addr.add_lit] at this
 rw [hq]; exact this
theorem Z4Q {vs us : List Value} (h : Z1F w ⟨b, o, none⟩ vs) (d : Nat) (hu : (vs.drop d).take us.length = us) (hq : q = o + d) : Z1F w ⟨b, q, none⟩ us := by
 intro j u hj
 have hl : j < us.length := (List.getElem?_eq_some_iff.1 hj).1
 rw [Addr.add_lit]
 refine Z4g h (d + j) ?_ (by omega)
 rw [← hu, List.getElem?_take, if_pos hl, List.getElem?_drop] at hj
 exact hj
theorem Sat.runR {w0 : World} {G : List Ck} {D : Nat → Prop} (H : Sat w0 G w) (i : Nat) (hi : G[i]? = some (Zb W D)) {vs : List Value} (h : Z1F W ⟨b, o, none⟩ vs) (hD : ¬ D b) : Z1F w ⟨b, o, none⟩ vs := fun j u hj => by
 have := h j u hj
 rw [Addr.add_lit] at this ⊢
 exact H.cellR i hi this hD
theorem IntsAt.atD {s : List Int} (h : IntsAt w v s) {i : Nat} (hi : i < s.length) : ∃ b o cap, v = .slice (Option.some ⟨b, o, none⟩) s.length cap ∧ Z1F w ⟨b, o + i * 1, none⟩ [.int .i64 (s.getD i 0)] := by
 obtain ⟨b, o, cap, e, _, h⟩ := h.some (by omega)
 refine ⟨b, o, cap, e, fun j u hj => ?_⟩
 match j, hj with
 | 0, hj =>
  simp only [List.getElem?_cons_zero, Option.some.injEq] at hj
  subst hj
  rw [Addr.add_lit]
  simpa using h i hi
theorem SliceOf.atD {L : α → List Value} {sz : Nat} {s : List α} (h : SliceOf (fun w a x => Z1F w a (L x)) sz w v s) (d : α) {i : Nat} (hi : i < s.length) : ∃ b o cap, v = .slice (Option.some ⟨b, o, none⟩) s.length cap ∧ Z1F w ⟨b, o + i * sz, none⟩ (L (s.getD i d)) := by
 obtain ⟨b, o, cap, e, _, h⟩ := SliceOf.some h (by omega)
 refine ⟨b, o, cap, e, ?_⟩
 have := h i hi
 rwa [show s.getD i d = s[i] by simp [List.getD, List.getElem?_eq_getElem hi]]
end
section
variable {P : Program} {n : Nat} {f : Nat → Value} {w : World} {dst : Option Tmp} {ty : TypeId} {pos : String} {aft : Array Edge} {gd : Option (Nat × Bool)}
theorem Z0h {T E : TypeId} {x y : Operand} {v : Value} {b o len cap sz : Nat} {k : IntKind} {z : Int} (hT : P.underlying T = some (.slice E)) (hs : P.cellsOf E = sz) (h0 : 0 < sz) (hx : ev n f x = v) (hv : v = .slice (some ⟨b, o, none⟩) len cap) (hy : ev n f y = .int k z) (h1 : 0 ≤ z) (h2 : z < len) :
  (execOp (ev n f) ⟨dst, .indexAddr T x y, ty, pos, aft, gd⟩).run P w = .ok (.value (.pointer (some ⟨b, o + z.toNat * sz, none⟩))) w :=
 Z0w hT hs h0 (hx.trans hv) hy h1 h2
end
end Go.Proofs.YtgigjkjdmalmaaaGreat
