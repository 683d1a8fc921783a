/- WHAT IS PROVED: contracts and plain laws of Sh2, BookD, StrB, RowSt, Ins. Conditions: stated with each. -/
import Derived.Test.YtgigjkjdmalmaaaGreatPY02
import Derived.Test.YtgigjkjdmalmaaaGreatPY03
import Derived.Test.YtgigjkjdmalmaaaGreatPY04
set_option maxHeartbeats 4000000
set_option maxRecDepth 100000
namespace Go.Proofs.YtgigjkjdmalmaaaGreat
open Go.RowKit
section
variable {P : Program} {Q Q' : Exit → Act → World → Prop} {n : Nat} {f : Nat → Value} {w w0 w' : World} {G : List Ck} {o : Oper} {ops : Array Oper}
theorem ztn {y : Code} (h : WC P y Q' n f w) : Exit.then (y.wp P Q') Q .normal (fr n f) w := h.h
theorem znt {y : Code} (h : WC P y Q' n f w) : WL P ops (Exit.then (y.wp P Q') Q) [] n f w := Zu h.h
theorem zsl {id : Nat} {l : List Oper} {y : Code} (h : WL P l.toArray (Exit.then (y.wp P Q) Q) l n f w) : WC P (Code.seq (Code.region id l.toArray false) y) Q n f w := Zf (Zt h)
theorem Z0N {id : Nat} {l : List Oper} {y : Code} (h : WL P l.toArray (Exit.then (y.wp P Q') Q') l n f w) : WL P ops (Exit.then ((Code.seq (Code.region id l.toArray false) y).wp P Q') Q) [] n f w := znt (zsl h)
theorem zwd {rest : List Oper} (k : ∀ K : Act → World → Prop, (∀ g w', WL P ops Q rest n g w' → K (fr n g) w') → WO P o K Q n f w) (hg : o.guard = none := by exact rfl) : WL P ops Q (o :: rest) n f w := Z0B (Z5 hg) k
theorem zxb {next : Act → World → Prop} {ws : List Nat} {F : Nat → Value} {R : (Nat → Value) → World → Nat → Prop} {m : Nat} {id : Nat} (h : Q .normal (fr n f) w) : WC P (Code.exit id) (Exit.then next (Back n ws F R m (Exit.inBlock id Q))) n f w := Z5m (Z26 (Z2g (Z3p h)))
theorem Z1q {d : Nat} {x y : Code} (b : Bool) (hb : b = true) (k : WC P x Q n (upd f d (.bool true)) w) (hf : f d = .bool b := by exact rfl) (he : ev n (upd f d (.bool true)) (.tmp d) = .bool true := by exact rfl) : WC P (Code.cond (.tmp d) x y) Q n f w := Zo d (.bool true) (hf.trans (congrArg Value.bool hb)) (Z0R he k)
theorem Z1a {d : Nat} {x y : Code} (b : Bool) (hb : b = false) (k : WC P y Q n (upd f d (.bool false)) w) (hf : f d = .bool b := by exact rfl) (he : ev n (upd f d (.bool false)) (.tmp d) = .bool false := by exact rfl) : WC P (Code.cond (.tmp d) x y) Q n f w := Zo d (.bool false) (hf.trans (congrArg Value.bool hb)) (Z0y he k)
end
section
variable {P : Program} {ops : Array Oper} {S : World → Prop} {Q : Exit → Act → World → Prop} {n : Nat} {f : Nat → Value} {w0 w w' : World} {o : Oper} {G : List Ck} {listed : Array Bool} {fuel : Nat} {B : List Nat}
theorem Z2z (i : Nat) (HS : S w) (j e : Nat) (b : Bool) (d : Nat) (v : Value) (k : WH P ops Q S fuel (listed.setIfInBounds i true) n (upd f d v) w) (hi : ops[i]? = some o := by exact rfl) (hs : Region.noSelect ops = true := by kernel_rfl) (hf : Region.free .any ops listed i = true := by kernel_rfl) (hr : (Region.ready .any ops listed).contains i = true := by kernel_rfl) (hQ : ∀ c a w, Q (.panic c) (a.put o.dst v) w → Q (.panic c) a w := by exact fun _ _ _ h => h)
  (hg : o.guard = some (j, b) := by exact rfl) (hj : (ops[j]?).bind (·.dst) = some e := by kernel_rfl) (hb : Nat.blt e n = true := by exact rfl) (hv : f e = .bool b := by kernel_rfl) (hd : o.dst = some d := by exact rfl) (he : ∀ w, S w → (execOp (ev n f) o).run P w = .ok (.value v) w := by exact fun _ _ => by kernel_rfl) : WH P ops Q S (fuel + 1) listed n f w := Z0s i hi hs hf hr hQ HS (Z0k j e b hg hj hb hv) hd he k
theorem ZQ {d : Nat} (i : Nat) (HS : S w) (j e : Nat) (b : Bool) (k : WH P ops Q S fuel (listed.setIfInBounds i true) n (upd f d undef) w) (hi : ops[i]? = some o := by exact rfl) (hs : Region.noSelect ops = true := by kernel_rfl) (hf : Region.free .any ops listed i = true := by kernel_rfl) (hr : (Region.ready .any ops listed).contains i = true := by kernel_rfl) (hQ : ∀ c a w, Q (.panic c) (a.put o.dst undef) w → Q (.panic c) a w := by exact fun _ _ _ h => h)
  (hg : o.guard = some (j, b) := by exact rfl) (hj : (ops[j]?).bind (·.dst) = some e := by kernel_rfl) (hb : Nat.blt e n = true := by exact rfl) (hv : f e = .bool (!b) := by kernel_rfl) (hd : o.dst = some d := by exact rfl) : WH P ops Q S (fuel + 1) listed n f w := h_pass i hi hs hf hr hQ HS (Z0Q j e b hg hj hb hv) hd k
theorem Z0H (i : Nat) (k : ∀ K : Act → World → Prop, (∀ g w', S w' → (WH P ops Q S fuel (listed.setIfInBounds i true) n g w') → K (fr n g) w') → WO P o K Q n f w) (hi : ops[i]? = some o := by exact rfl) (hr : Region.ready .any ops listed = [i] := by kernel_rfl) (hg : o.guard = none := by exact rfl) : WH P ops Q S (fuel + 1) listed n f w := Z6J i hi hr (Z5 hg) k
theorem zhf (h : Q .normal (fr n f) w) (hr : Region.ready .any ops listed = [] := by kernel_rfl) : WH P ops Q S fuel listed n f w := Z5N hr h
theorem zkp (i : Nat) (HS : S w) (d : Nat) (v : Value) (k : WK P ops Q S (Z20 B) fuel (listed.setIfInBounds i true) n (upd f d v) w) (hi : ops[i]? = some o := by exact rfl) (hs : Region.noSelect ops = true := by kernel_rfl) (hf : Region.free .any ops listed i = true := by kernel_rfl) (hr : (Region.ready .any ops listed).contains i = true := by kernel_rfl) (hQ : ∀ c a w, Q (.panic c) (a.put o.dst v) w → Q (.panic c) a w := by exact fun _ _ _ h => h)
  (hg : o.guard = none := by exact rfl) (hiB : Z20 B i = false := by exact rfl) (hd : o.dst = some d := by exact rfl) (he : ∀ w, (execOp (ev n f) o).run P w = .ok (.value v) w := by exact fun _ => by kernel_rfl) : WK P ops Q S (Z20 B) (fuel + 1) listed n f w := Z0Y i hi hs hf hr hQ HS (Z5 hg) hiB hd he k
theorem zkv (i : Nat) (HS : S w) (d : Nat) (v : Value) (k : WK P ops Q S (Z20 B) fuel (listed.setIfInBounds i true) n (upd f d v) w) (hi : ops[i]? = some o := by exact rfl) (hs : Region.noSelect ops = true := by kernel_rfl) (hf : Region.free .any ops listed i = true := by kernel_rfl) (hr : (Region.ready .any ops listed).contains i = true := by kernel_rfl) (hQ : ∀ c a w, Q (.panic c) (a.put o.dst v) w → Q (.panic c) a w := by exact fun _ _ _ h => h)
  (hg : o.guard = none := by exact rfl) (hiB : Z20 B i = false := by exact rfl) (hB : Zcj ops B i = true := by kernel_rfl) (hd : o.dst = some d := by exact rfl) (he : ∀ w, S w → (execOp (ev n f) o).run P w = .ok (.value v) w := by exact fun _ _ => by kernel_rfl) : WK P ops Q S (Z20 B) (fuel + 1) listed n f w := ZaI i hi hs hf hr hQ HS (Z5 hg) hiB hB hd he k
theorem Z4G (i : Nat) (k : ∀ K : Act → World → Prop, (∀ g w', S w' → (WK P ops Q S (Z20 B) fuel (listed.setIfInBounds i true) n g w') → K (fr n g) w') → WO P o K Q n f w) (hi : ops[i]? = some o := by exact rfl) (hr : Region.ready .any ops listed = [i] := by kernel_rfl) (hg : o.guard = none := by exact rfl) (hiB : Z20 B i = false := by exact rfl) : WK P ops Q S (Z20 B) (fuel + 1) listed n f w := k_do i hi hr (Z5 hg) hiB k
theorem zqs {Q : Exit → Act → World → Prop} {id : Nat} {l : List Oper} (H : Sat w0 G w) (k : WQ P l.toArray (Sat w0 G) (fun a' => ∀ w', Sat w0 G w' → Q .normal a' w') l n f) (hm : P.follows .mixedOrders = true := by kernel_rfl) (hB : Region.lexB .any l.toArray = true := by kernel_rfl) : WC P (Code.region id l.toArray true) Q n f w := Z7A H hm hB k
end
section
variable {P : Program} {Q : Exit → Act → World → Prop} {n : Nat} {f : Nat → Value} {w0 w w' : World} {G : List Ck} {dst : Option Tmp} {ty : TypeId} {pos : String} {aft : Array Edge} {gd : Option (Nat × Bool)} {K : Act → World → Prop} {o : Oper} {ops : Array Oper} {rest : List Oper}
theorem zds {T : TypeId} {x y : Operand} {b q : Nat} {E : TypeId} {cs : List Value} {u : Value} (vs cs' : List Value) (H : Sat w0 G w) (i : Nat) (k : ∀ w', Sat w0 (G.set i (Z3 b E cs')) w' → K (fr n f) w') (hi : G[i]? = some (Z3 b E cs) := by exact rfl) (hx : ev n f x = .pointer (some ⟨b, q, none⟩) := by exact rfl) (hy : ev n f y = u := by exact rfl) (hu : u.cells = ⟨vs⟩ := by exact rfl) (hd : dst = none := by exact rfl) (hN : P.cellsOf T = vs.length := by kernel_rfl) (h0 : 0 < vs.length := by exact Nat.le_of_ble_eq_true (by kernel_rfl)) (ho : q + vs.length ≤ cs.length := by exact Nat.le_of_ble_eq_true (by kernel_rfl)) (h1 : vs.all (·.oneCell') = true := by kernel_rfl) (hs : Z0P cs q vs = cs' := by kernel_rfl) :
  WO P ⟨dst, .store T x y, ty, pos, aft, gd⟩ K Q n f w := Z5L hd H i hi hx hy hu hN h0 ho h1 hs k
theorem Z21 {T : TypeId} {x y : Operand} {b q : Nat} {E : TypeId} {cs : List Value} {u : Value} (vs : List Value) (H : Sat w0 G w) (i : Nat) (k : ∀ w', Sat w0 (G.set i (Z3 b E vs)) w' → K (fr n f) w') (hi : G[i]? = some (Z3 b E cs) := by exact rfl) (hx : ev n f x = .pointer (some ⟨b, q, none⟩) := by exact rfl) (hy : ev n f y = u := by exact rfl) (hu : u.cells = ⟨vs⟩ := by exact rfl) (hd : dst = none := by exact rfl) (hN : P.cellsOf T = vs.length := by kernel_rfl) (h0 : 0 < vs.length := by exact Nat.le_of_ble_eq_true (by kernel_rfl)) (ho : q + vs.length ≤ cs.length := by exact Nat.le_of_ble_eq_true (by kernel_rfl)) (h1 : vs.all (·.oneCell') = true := by kernel_rfl) (hs : Z0P cs q vs = vs := by kernel_rfl) :
  WO P ⟨dst, .store T x y, ty, pos, aft, gd⟩ K Q n f w := Z5L hd H i hi hx hy hu hN h0 ho h1 hs k
theorem zda {T : TypeId} {d : Nat} (zs : List Value) (H : Sat w0 G w) (k : ∀ b w', Sat w0 (G ++ [Z3 b T zs]) w' → K (fr n (upd f d (.pointer (some ⟨b, 0, none⟩)))) w') (hz : (P.info? T).bind (·.zero) = some (.agg ⟨zs⟩) := by kernel_rfl) (hd : dst = some d := by exact rfl) : WO P ⟨dst, .alloc T, ty, pos, aft, gd⟩ K Q n f w := Z7n hd H hz rfl k
theorem zdb {T : TypeId} {x : Operand} {v : Value} {d : Nat} (vs : List Value) (H : Sat w0 G w) (k : ∀ b w', Sat w0 (G ++ [Z3 b T vs]) w' → K (fr n (upd f d (.pointer (some ⟨b, 0, none⟩)))) w') (hx : ev n f x = v := by exact rfl) (hvs : v.cells = ⟨vs⟩ := by exact rfl) (hd : dst = some d := by exact rfl) : WO P ⟨dst, .box T x, ty, pos, aft, gd⟩ K Q n f w := Z2R hd H hx hvs k
theorem Z3U {T : TypeId} {N : Nat} {parts : Array (Nat × Operand)} {d : Nat} (e size bytes : Nat) (z : Value) (pvs : List (Nat × Value)) (vs : List Value) (H : Sat w0 G w) (kk : ∀ b w', Sat w0 (G ++ [Zc e size (.slice (some ⟨b, 0, none⟩) N N) N vs]) w' → K (fr n (upd f d (.slice (some ⟨b, 0, none⟩) N N))) w') (hd : dst = some d := by exact rfl) (hR : Z4P P T e size bytes = true := by kernel_rfl) (hz : (P.info? e).bind (·.zero) = some z := by kernel_rfl)
  (hp : (parts.map fun q => (q.1, ev n f q.2)).toList = pvs := by kernel_rfl) (hf : Instr.fill (fun j => some (j * size, size)) ((Array.range (N * size)).map fun q => z.cells[q % z.cells.size]!) pvs = some ⟨vs⟩ := by kernel_rfl) (hl : Nat.beq vs.length (N * size) = true := by kernel_rfl) (hN : Nat.blt 0 N = true := by exact rfl) (hsz : Nat.ble (N * size) 16777216 = true := by exact rfl) : WO P ⟨dst, .buildSlice T N parts, ty, pos, aft, gd⟩ K Q n f w := Z2j hd H hR hz hp hf hl hN hsz kk
theorem zdc {g : FuncId} {args : Array Value} {R : Ending → World → Prop} (d : Nat) (hc : Calls P g args w R) (k : ∀ e w'', R e w'' → ∃ v, e = .returned v ∧ K (fr n (upd f d v)) w'') (hd : o.dst = some d := by exact rfl) (hr : (execOp (ev n f) o).run P w = .ok (.enter g args) w := by kernel_rfl) : WO P o K Q n f w := Z0L hd hr hc k
theorem zdq {g : FuncId} {args : Array Value} {v : Value} (d : Nat) (hc : Calls P g args w fun e w'' => e = .returned v ∧ Upd [] w w'') (H : Sat w0 G w) (k : ∀ w'', Sat w0 G w'' → K (fr n (upd f d v)) w'') (hd : o.dst = some d := by exact rfl) (hr : (execOp (ev n f) o).run P w = .ok (.enter g args) w := by kernel_rfl) : WO P o K Q n f w := Z0L hd hr hc fun e w'' h => ⟨v, h.1, k w'' (H.keepU h.2)⟩
theorem zwN {b t : Nat} {cs : List Value} {E : TypeId} {fz : Nat × Nat} {T : TypeId} {x : Operand} (d : Nat) (vs : List Value) (hb : w.heap[b]? = some (.cells ⟨cs⟩ E fz)) (k : WL P ops Q rest n (upd f d (.agg ⟨vs⟩)) w) (hx : ev n f x = .pointer (some ⟨b, t, none⟩) := by exact rfl) (hT : Z7b P T = true := by kernel_rfl) (hN : P.cellsOf T = vs.length := by kernel_rfl) (h0 : 0 < vs.length := by exact Nat.le_of_ble_eq_true (by kernel_rfl)) (hv : (cs.drop t).take vs.length = vs := by kernel_rfl) (hg : gd = none := by exact rfl) (hd : dst = some d := by exact rfl) : WL P ops Q (⟨dst, .load T x, ty, pos, aft, gd⟩ :: rest) n f w := Z6 (Z5 hg) hd (ZG hx hT hN h0 hb hv) k
theorem zwi {o : Oper} (d : Nat) (z : Int) (k : WL P ops Q rest n (upd f d (.int .i64 z)) w) (h : -9223372036854775808 ≤ z ∧ z ≤ 9223372036854775807 := by omega) (hr : (execOp (ev n f) o).run P w = .ok (.value (.int .i64 (IntKind.i64.wrap z))) w := by kernel_rfl) (hg : o.guard = none := by exact rfl) (hd : o.dst = some d := by exact rfl) : WL P ops Q (o :: rest) n f w := Z6 (Z5 hg) hd (Z0I hr (IntWalk.i64_in _ h)) k
theorem zw1 {p : Addr} {T : TypeId} {x : Operand} (d : Nat) (v : Value) (hc : w.cell? p = some v) (k : WL P ops Q rest n (upd f d v) w) (hx : ev n f x = .pointer (some p) := by exact rfl) (hT : Z6i P T = true := by kernel_rfl) (hg : gd = none := by exact rfl) (hd : dst = some d := by exact rfl) : WL P ops Q (⟨dst, .load T x, ty, pos, aft, gd⟩ :: rest) n f w := Z6 (Z5 hg) hd (Zi hx hT hc) k
end
section
variable {P : Program} {fn : Func} {R : Ending → World → Prop} {n : Nat} {f : Nat → Value} {w : World}
theorem ze1 {t : Nat} (v : Value) (h : R (.returned v) w) (hr : fn.results = #[.tmp t] := by exact rfl) (h1 : ev n f (.tmp t) = v := by exact rfl) : bodyPost P fn R .ret (fr n f) w := Z1x hr (Z0c h1) h
theorem ze2 {t s : Nat} (v u : Value) (h : R (.returned (.tuple #[v, u])) w) (hr : fn.results = #[.tmp t, .tmp s] := by exact rfl) (h1 : ev n f (.tmp t) = v := by exact rfl) (h2 : ev n f (.tmp s) = u := by exact rfl) : bodyPost P fn R .ret (fr n f) w := end2 hr (Z0c h1) (Z0c h2) h
end
theorem ja {A : Sort _} {a b : A} (h : a = b := by simp only [List.length_append, List.flatMap_append] <;> rfl) : a = b := h
theorem Sat.ct {w0 w : World} {G : List Ck} {Y : Ck} (H : Sat w0 G w) (i : Nat) (hi : G[i]? = some Y) (X : Ck) (e : Y = X) : Sat w0 (G.set i X) w := by
 have h : G.set i X = G := by
  subst e
  refine List.ext_getElem? fun j => ?_
  rw [List.getElem?_set]
  split
  ·rename_i hj
   subst hj
   obtain ⟨h1, _⟩ := List.getElem?_eq_some_iff.1 hi
   rw [if_pos h1, hi]
  ·rfl
 rw [h]; exact H
theorem zs {ws : List Nat} {f F : Nat → Value} (h : Z8S ws f F := by repeat (first | exact Z1N | exact Z3k | refine Za rfl ?_ | refine Z4u rfl ?_)) : Z8S ws f F := h
section
variable {w0 w w' : World} {G L : List Ck}
theorem Sat.pk (h : Sat w0 G w) (is : List Nat) (hn : is.Pairwise (fun a b => Nat.beq a b = false) := by decide) : Sat w0 (is.filterMap fun i => G[i]?) w := h.pick is hn
theorem Sat.fn (H : Sat w0 G w) (is : List Nat) (hn : is.Pairwise (fun a b => Nat.beq a b = false) := by decide) (hL : (is.filterMap fun i => G[i]?) = L := by rfl) : (ZL L).ok w := H.fin is hn hL
theorem Sat.tl (H : Sat w0 G w) (L' : List Ck) (is js : List Nat) (h : Sat w (L' ++ [Z7 w (ZL L).fp]) w') (ps : List Nat) (hn : (is ++ js).Pairwise (fun a b => Nat.beq a b = false) := by decide) (hi : (is.filterMap fun i => G[i]?) = L := by kernel_rfl) (hp : ps.Pairwise (fun a b => Nat.beq a b = false) := by decide) : Sat w0 (ps.filterMap fun i => (L' ++ (js.filterMap fun i => G[i]?))[i]?) w' := (Sat.turnL (L' := L') H is js hn hi rfl h).pick ps hp
end
structure Z4 where
 p : Int
 s : List UInt8
 deriving DecidableEq
def ZK (x : Z4) : Value := .agg #[.int .i64 x.p, ZD x.s]
theorem Za5 (w : World) (x y : Z4) : (Op.equal 125 (ZK x) (ZK y)).run Tryz.prog w = .ok (decide (x = y)) w := by
 simp only [Op.equal, Op.maxDepth, ZK, ZD]
 simp [go_sem]
 obtain ⟨x1, x2⟩ := x
 obtain ⟨y1, y2⟩ := y
 have := Za9 x2 y2
 by_cases h1 : x1 = y1 <;> by_cases h2 : x2 = y2 <;> simp_all
theorem Z70 (w : World) (em : Bool) (x : Z4) : (Instr.checkKey em 10000 125 (ZK x)).run Tryz.prog w = .ok () w := by
 have h : ∀ n, (Instr.checkKey em (n + 2) 125 (ZK x)).run Tryz.prog w = .ok () w := fun n => by simp [Instr.checkKey, ZK, ZD, go_sem]
 exact h 9998
theorem Z4x : KeyTy Tryz.prog 125 ZK := KeyTy.deep (by kernel_rfl) Z70 Za5 (by
 intro a
 simp [ZK, ZD, Instr.sameBits, Zbg])
def ZU (l : List Z4) : List (Z4 × Int) := l.zipIdx.map fun x => (x.1, (x.2 : Int) + 1)
def Z9 (l : List Z4) (x : Z4) : Int := ((l.idxOf? x).map fun i => (i : Int) + 1).getD 0
def Zd (l : List Z4) (x : Z4) : List Z4 := if x ∈ l then l else l ++ [x]
def BookAt (w : World) (b mb : Nat) (l : List Z4) : Prop := w.heap[b]? = some (.cells #[.map (some mb)] 108) ∧ b ≠ mb ∧ MapAt w mb ZK (Value.int .i64) (ZU l)
theorem Z5f (l : List Z4) : (ZU l).map (·.1) = l := by
 simp [ZU, List.map_map, Function.comp_def]
theorem ZaQ (l : List Z4) (i : Nat) : (ZU l)[i]? = (l[i]?).map fun x => (x, (i : Int) + 1) := by
 simp [ZU, List.getElem?_map, List.getElem?_zipIdx, Function.comp_def]
theorem Z3v (l : List Z4) (x : Z4) : Zn (ZU l) x = (l.idxOf? x).map fun i => (i : Int) + 1 := by
 rw [Z6Q, Z5f]
 cases h : l.idxOf? x with
 | none => simp
 | some i =>
  obtain ⟨h1, _⟩ := List.idxOf?_eq_some_iff.1 h
  simp [ZaQ, List.getElem?_eq_getElem h1]
theorem Z9Y (l : List Z4) (x : Z4) (h : x ∉ l) : Z2Y (ZU l) x ((l.length : Int) + 1) = ZU (l ++ [x]) := by
 unfold Z2Y
 rw [Z5f, if_neg h]
 simp [ZU, List.zipIdx_append]
theorem Z9N (l : List Z4) : (ZU l).length = l.length := by simp [ZU]
theorem BookAt.upd {w w' : World} {b mb : Nat} {l : List Z4} {D : List Nat} (h : BookAt w b mb l) (hu : Upd D w w') (h1 : b ∉ D) (h2 : mb ∉ D) : BookAt w' b mb l := ⟨hu.at h.1 h1, h.2.1, h.2.2.upd hu h2⟩
theorem BookAt.lt {w : World} {b mb : Nat} {l : List Z4} (h : BookAt w b mb l) : b < w.heap.size ∧ mb < w.heap.size := ⟨Z0J h.1, h.2.2.lt⟩
theorem BookAt.alloc {w : World} {b mb : Nat} {l : List Z4} (h : BookAt w b mb l) (o : Obj) : BookAt (w.alloc o) b mb l := h.upd ((Upd.refl [] w).alloc o) (by simp) (by simp)
theorem BookAt.drew {w : World} {b mb : Nat} {l : List Z4} (h : BookAt w b mb l) : BookAt w.drew b mb l := h.upd ((Upd.refl [] w).drew) (by simp) (by simp)
theorem BookAt.setCell {w : World} {b mb : Nat} {l : List Z4} (h : BookAt w b mb l) {p : Addr} (h1 : p.block ≠ b) (h2 : p.block ≠ mb) (u : Value) : BookAt (w.setCell p u) b mb l :=
 h.upd ((Upd.refl [p.block] w).setCell (Or.inr (by simp)) u) (by simpa using h1.symm) (by simpa using h2.symm)
theorem Z7w {l : List Z4} {x : Z4} (h : x ∉ l) : Z9 l x = 0 := by
 have : l.idxOf? x = none := List.idxOf?_eq_none_iff.2 h
 simp [Z9, this]
theorem Z8x {l : List Z4} {x : Z4} (h : x ∈ l) : 1 ≤ Z9 l x ∧ Z9 l x ≤ l.length := by
 cases hi : l.idxOf? x with
 | none => exact absurd h (List.idxOf?_eq_none_iff.1 hi)
 | some i =>
  obtain ⟨h1, _⟩ := List.idxOf?_eq_some_iff.1 hi
  simp [Z9, hi]; omega
def Z2w (l : List Z4) (p mk : Int) (s : List UInt8) : Bool := decide (0 < Z9 l ⟨p, s⟩ ∧ Z9 l ⟨p, s⟩ = mk)
theorem Z3S {l : List Z4} {x : Z4} (h : x ∈ l) : Zd l x = l := if_pos h
theorem Z4w (l : List Z4) (x : Z4) : (Zd l x).length ≤ l.length + 1 := by unfold Zd; split <;> simp
section
variable {P : Program} {n : Nat} {f : Nat → Value} {w : World} {dst : Option Tmp} {ty : TypeId} {pos : String} {aft : Array Edge} {gd : Option (Nat × Bool)}
theorem Z4c {S D e : TypeId} {x : Operand} {v : Value} {s : List UInt8} (hs : P.underlying S = some (.slice e)) (he : P.underlying e = some (.int .u8)) (hd : P.underlying D = some .string) (hx : ev n f x = v) (hb : BytesAt w v s) :
  (execOp (ev n f) ⟨dst, .convert S D x, ty, pos, aft, gd⟩).run P w = .ok (.value (ZD s)) w := by
 simp [execOp, hx, Z3Y hb hs he hd, Result.andThen]
theorem ZbV {T U : TypeId} {x y : Operand} (a b : List UInt8) (hx : ev n f x = ZD a) (hy : ev n f y = ZD b) :
  (execOp (ev n f) ⟨dst, .binOp .eql T x y U, ty, pos, aft, gd⟩).run P w = .ok (.value (.bool (decide (a = b)))) w := by
 have : Op.stringOp .eql ⟨a.toArray⟩ ⟨b.toArray⟩ = pure (.bool (decide (a = b))) := by
  simp only [Op.stringOp, ByteArray.toList_mk]
  congr 2
  rw [Bool.eq_iff_iff]; simp
 simp [execOp, hx, hy, ZD, binOp, eqGuard, this]
end
section
variable {P : Program} {n : Nat} {f : Nat → Value} {w w' : World} {dst : Option Tmp} {ty : TypeId} {pos : String} {aft : Array Edge} {gd : Option (Nat × Bool)} {w0 : World} {G : List Ck} {K : Act → World → Prop} {Q : Exit → Act → World → Prop}
theorem Z5k (cs : List Value) (o : Nat) (vs : List Value) (h : o + vs.length ≤ cs.length) : (Z0P cs o vs).length = cs.length := by
 simp only [Z0P, List.length_append, List.length_take, List.length_drop]; omega
theorem Z7H (cs : List Value) (o : Nat) (vs : List Value) (m : Nat) (h : o + vs.length ≤ m) (hm : m ≤ cs.length) : (Z0P cs o vs).take m = Z0P (cs.take m) o vs := by
 unfold Z0P
 rw [List.take_append, List.take_of_length_le (by rw [List.length_append, List.length_take]; omega), List.take_take, Nat.min_eq_left (by omega), List.length_append, List.length_take, Nat.min_eq_left (by omega), List.drop_take]
theorem Za0 {e size k c g o : Nat} {v : Value} {xs vs : List Value} (h : (Zc e size v k xs).ok w) (hv : v = .slice (some ⟨g, 0, none⟩) k c) {T : TypeId} {x y : Operand} {u : Value} (hx : ev n f x = .pointer (some ⟨g, o, none⟩)) (hy : ev n f y = u) (hu : u.cells = ⟨vs⟩) (hN : P.cellsOf T = vs.length) (h0 : 0 < vs.length) (ho : o + vs.length ≤ xs.length) (h1 : vs.all (·.oneCell') = true) :
  ∃ w', (execOp (ev n f) ⟨dst, .store T x y, ty, pos, aft, gd⟩).run P w = .ok .skip w' ∧ (Zc e size v k (Z0P xs o vs)).ok w' ∧ Ext w w' ∧ ∀ b, b ≠ g → w'.heap[b]? = w.heap[b]? := by
 obtain ⟨hl, h⟩ := h
 rcases h with ⟨h2, _⟩ | ⟨g', cap, cur, h2, hb, hg, hc, hm, hcs, ht⟩
 ·rw [hv] at h2; cases h2
 rw [hv] at h2
 obtain ⟨rfl, rfl⟩ : g = g' ∧ c = cap := by simpa using h2
 have hxl : xs.length ≤ cur.toList.length := by rw [← ht, List.length_take]; exact Nat.min_le_right ..
 obtain ⟨w', hr, hb', he, hk⟩ := Z5M (P := P) (dst := dst) (ty := ty) (pos := pos) (aft := aft) (gd := gd) (cs := cur.toList) hx hy hu hN h0 (by simpa using hg) (by omega) (fun v hv => List.all_eq_true.1 h1 v hv)
 refine ⟨w', hr, ⟨by rw [Z5k _ _ _ ho]; exact hl, .inr ⟨g, c, _, hv, hb, hb', hc, hm, ?_, ?_⟩⟩, he, hk⟩
 ·show (Z0P cur.toList o vs).length = _
  rw [Z5k _ _ _ (by omega)]; simpa using hcs
 ·show (Z0P cur.toList o vs).take (k * size) = _
  rw [Z7H _ _ _ _ (by omega) (by rw [← hl]; exact hxl), ht]
theorem Z4V {e size k c g o : Nat} {v : Value} {xs vs : List Value} {T : TypeId} {x y : Operand} {u : Value} (hd : dst = none) (H : Sat w0 G w) (i : Nat) (hi : G[i]? = some (Zc e size v k xs)) (hv : v = .slice (some ⟨g, 0, none⟩) k c) (hx : ev n f x = .pointer (some ⟨g, o, none⟩)) (hy : ev n f y = u) (hu : u.cells = ⟨vs⟩) (hN : P.cellsOf T = vs.length) (h0 : 0 < vs.length) (ho : o + vs.length ≤ xs.length) (h1 : vs.all (·.oneCell') = true)
  {xs' : List Value} (hxs : Z0P xs o vs = xs') (k' : ∀ w', Sat w0 (G.set i (Zc e size v k xs')) w' → K (fr n f) w') : WO P ⟨dst, .store T x y, ty, pos, aft, gd⟩ K Q n f w := by
 obtain ⟨w', hr, hok, he, hk⟩ := Za0 (P := P) (dst := dst) (ty := ty) (pos := pos) (aft := aft) (gd := gd) (H.at i hi) hv hx hy hu hN h0 ho h1
 subst hxs
 refine Z6C hd hr (k' w' (H.set i hi he (fun b _ hb => hk b fun e => hb ?_) hok fun b hb => .inl hb))
 show v.ownBlock = some b
 rw [hv, e]; rfl
theorem Z7D {T E : TypeId} {a : Option Addr} {len cap : Nat} {k : IntKind} {z : Int} {i : TypeInfo} (hT : P.underlying T = some (.slice E)) (hi : P.info? E = some i) (h1 : 0 ≤ z) (h2 : z ≤ cap) :
  (Instr.slice T (.slice a len cap) none (some (.int k z)) none).run P w = .ok (.slice a z.toNat cap) w := by
 have e0 : a.map (·.add (0 * i.size)) = a := by cases a <;> simp [Addr.add]
 simp [Instr.slice, run_underlying hT, Instr.sliceBounds, Instr.sliceBound, asIntOf, h1, h2, Result.andThen, sizeOf, typeInfo, hi]
 intro _
 cases a <;> simp [Addr.add]
end
theorem Z7X {α : Type} (enc : α → List Value) (size : Nat) (hs : ∀ x, (enc x).length = size) : ∀ (L : List α) (i : Nat) (x : α), i < L.length → Z0P (L.flatMap enc) (i * size) (enc x) = (L.set i x).flatMap enc
 | [], i, x, h => by simp at h
 | y :: L, 0, x, _ => by
  simp only [List.flatMap_cons, Nat.zero_mul, Z0P, List.take_zero, List.nil_append, Nat.zero_add, List.set_cons_zero]
  rw [hs, List.drop_append, List.drop_of_length_le (by rw [hs]; exact Nat.le_refl _), hs]
  simp
 | y :: L, i + 1, x, h => by
  have ih := Z7X enc size hs L i x (by simpa using h)
  simp only [List.flatMap_cons, List.set_cons_succ, ← ih, Z0P]
  have e : (i + 1) * size = (enc y).length + i * size := by rw [hs, Nat.succ_mul, Nat.add_comm]
  rw [e, List.take_append, List.take_of_length_le (by omega), Nat.add_sub_cancel_left, List.drop_append, List.drop_of_length_le (by omega), List.nil_append, List.append_assoc, List.append_assoc, List.append_assoc]
  rw [show (enc y).length + i * size + (enc x).length - (enc y).length = i * size + (enc x).length by omega]
section
variable {α : Type} {w W : World} {v : Value} {b o q : Nat}
theorem Z1C {vs : List Value} (h : Z1v w ⟨b, o, none⟩ vs) (d : Nat) {u : Value} (hu : vs[d]? = some u) (hq : q = o + d) : w.cell? ⟨b, q, none⟩ = some u := by
 have := h d u hu
 rw [Addr.add_lit] at this
 rw [hq]; exact this
theorem Z16 {vs us : List Value} (h : Z1v w ⟨b, o, none⟩ vs) (d : Nat) (hu : (vs.drop d).take us.length = us) (hq : q = o + d) : Z1v w ⟨b, q, none⟩ us := by
 intro j u hj
 have hl : j < us.length := (List.getElem?_eq_some_iff.1 hj).1
 rw [Addr.add_lit]
 refine Z1C h (d + j) ?_ (by omega)
 rw [← hu, List.getElem?_take, if_pos hl, List.getElem?_drop] at hj
 exact hj
theorem Sat.runR {w0 : World} {G : List Ck} {D : Nat → Prop} (H : Sat w0 G w) (i : Nat) (hi : G[i]? = some (Z7 W D)) {vs : List Value} (h : Z1v W ⟨b, o, none⟩ vs) (hD : ¬ D b) : Z1v w ⟨b, o, none⟩ vs := fun j u hj => by
 have := h j u hj
 rw [Addr.add_lit] at this ⊢
 exact H.cellR i hi this hD
theorem IntsAt.atD {s : List Int} (h : IntsAt w v s) {i : Nat} (hi : i < s.length) : ∃ b o cap, v = .slice (Option.some ⟨b, o, none⟩) s.length cap ∧ Z1v w ⟨b, o + i * 1, none⟩ [.int .i64 (s.getD i 0)] := by
 obtain ⟨b, o, cap, e, _, h⟩ := h.some (by omega)
 refine ⟨b, o, cap, e, fun j u hj => ?_⟩
 match j, hj with
 | 0, hj =>
  simp only [List.getElem?_cons_zero, Option.some.injEq] at hj
  subst hj
  rw [Addr.add_lit]
  simpa using h i hi
theorem SliceOf.atD {L : α → List Value} {sz : Nat} {s : List α} (h : SliceOf (fun w a x => Z1v w a (L x)) sz w v s) (d : α) {i : Nat} (hi : i < s.length) : ∃ b o cap, v = .slice (Option.some ⟨b, o, none⟩) s.length cap ∧ Z1v w ⟨b, o + i * sz, none⟩ (L (s.getD i d)) := by
 obtain ⟨b, o, cap, e, _, h⟩ := SliceOf.some h (by omega)
 refine ⟨b, o, cap, e, ?_⟩
 have := h i hi
 rwa [show s.getD i d = s[i] by simp [List.getD, List.getElem?_eq_getElem hi]]
end
section
variable {P : Program} {n : Nat} {f : Nat → Value} {w : World} {dst : Option Tmp} {ty : TypeId} {pos : String} {aft : Array Edge} {gd : Option (Nat × Bool)}
theorem ZM {T E : TypeId} {x y : Operand} {v : Value} {b o len cap sz : Nat} {k : IntKind} {z : Int} (hT : P.underlying T = some (.slice E)) (hs : P.cellsOf E = sz) (h0 : 0 < sz) (hx : ev n f x = v) (hv : v = .slice (some ⟨b, o, none⟩) len cap) (hy : ev n f y = .int k z) (h1 : 0 ≤ z) (h2 : z < len) :
  (execOp (ev n f) ⟨dst, .indexAddr T x y, ty, pos, aft, gd⟩).run P w = .ok (.value (.pointer (some ⟨b, o + z.toNat * sz, none⟩))) w :=
 Z0r hT hs h0 (hx.trans hv) hy h1 h2
end
end Go.Proofs.YtgigjkjdmalmaaaGreat
