/- WHAT IS PROVED: contracts and plain laws of Sh2, Sh3, BookD, StrB, RowSt, Ins. Conditions: stated with each. -/
import Derived.Test.YtenihpghfdcpkaaGreatT02
import Derived.Test.YtenihpghfdcpkaaGreatT03
import Derived.Test.YtenihpghfdcpkaaGreatT04
set_option maxHeartbeats 4000000
set_option maxRecDepth 100000
namespace Go.Proofs.YtenihpghfdcpkaaGreat
open Go.RowKit
section
variable {P : Program} {Q Q' : Exit → Act → World → Prop} {n : Nat} {f : Nat → Value} {w w0 w' : World} {G : List Ck} {o : Oper} {ops : Array Oper}
theorem ztn {y : Code} (h : WC P y Q' n f w) : Exit.then (y.wp P Q') Q .normal (fr n f) w := h.h
theorem znt {y : Code} (h : WC P y Q' n f w) : WL P ops (Exit.then (y.wp P Q') Q) [] n f w := w_nil h.h
theorem zsl {id : Nat} {l : List Oper} {y : Code} (h : WL P l.toArray (Exit.then (y.wp P Q) Q) l n f w) : WC P (Code.seq (Code.region id l.toArray false) y) Q n f w := w_seq (w_lit h)
theorem znsl {id : Nat} {l : List Oper} {y : Code} (h : WL P l.toArray (Exit.then (y.wp P Q') Q') l n f w) : WL P ops (Exit.then ((Code.seq (Code.region id l.toArray false) y).wp P Q') Q) [] n f w := znt (zsl h)
theorem zwd {rest : List Oper} (k : ∀ K : Act → World → Prop, (∀ g w', WL P ops Q rest n g w' → K (fr n g) w') → WO P o K Q n f w) (hg : o.guard = none := by exact rfl) : WL P ops Q (o :: rest) n f w := wl_do (wants0 hg) k
theorem zxb {next : Act → World → Prop} {ws : List Nat} {F : Nat → Value} {R : (Nat → Value) → World → Nat → Prop} {m : Nat} {id : Nat} (h : Q .normal (fr n f) w) : WC P (Code.exit id) (Exit.then next (Back n ws F R m (Exit.inBlock id Q))) n f w := w_exit (then_exit (back_exit (blk_hit h)))
theorem zwkt {d : Nat} {x y : Code} (b : Bool) (hb : b = true) (k : WC P x Q n (upd f d (.bool true)) w) (hf : f d = .bool b := by exact rfl) (he : ev n (upd f d (.bool true)) (.tmp d) = .bool true := by exact rfl) : WC P (Code.cond (.tmp d) x y) Q n f w := wp_know d (.bool true) (hf.trans (congrArg Value.bool hb)) (wp_ift he k)
theorem zwkf {d : Nat} {x y : Code} (b : Bool) (hb : b = false) (k : WC P y Q n (upd f d (.bool false)) w) (hf : f d = .bool b := by exact rfl) (he : ev n (upd f d (.bool false)) (.tmp d) = .bool false := by exact rfl) : WC P (Code.cond (.tmp d) x y) Q n f w := wp_know d (.bool false) (hf.trans (congrArg Value.bool hb)) (wp_iff he k)
end
section
variable {P : Program} {ops : Array Oper} {S : World → Prop} {Q : Exit → Act → World → Prop} {n : Nat} {f : Nat → Value} {w0 w w' : World} {o : Oper} {G : List Ck} {listed : Array Bool} {fuel : Nat} {B : List Nat}
theorem zhvy (i : Nat) (HS : S w) (j e : Nat) (b : Bool) (d : Nat) (v : Value) (k : WH P ops Q S fuel (listed.setIfInBounds i true) n (upd f d v) w) (hi : ops[i]? = some o := by exact rfl) (hs : Region.noSelect ops = true := by kernel_rfl) (hf : Region.free .any ops listed i = true := by kernel_rfl) (hr : (Region.ready .any ops listed).contains i = true := by kernel_rfl) (hQ : ∀ c a w, Q (.panic c) (a.put o.dst v) w → Q (.panic c) a w := by exact fun _ _ _ h => h)
  (hg : o.guard = some (j, b) := by exact rfl) (hj : (ops[j]?).bind (·.dst) = some e := by kernel_rfl) (hb : Nat.blt e n = true := by exact rfl) (hv : f e = .bool b := by kernel_rfl) (hd : o.dst = some d := by exact rfl) (he : ∀ w, S w → (execOp (ev n f) o).run P w = .ok (.value v) w := by exact fun _ _ => by kernel_rfl) : WH P ops Q S (fuel + 1) listed n f w := h_val i hi hs hf hr hQ HS (wantsY j e b hg hj hb hv) hd he k
theorem zhpn {d : Nat} (i : Nat) (HS : S w) (j e : Nat) (b : Bool) (k : WH P ops Q S fuel (listed.setIfInBounds i true) n (upd f d undef) w) (hi : ops[i]? = some o := by exact rfl) (hs : Region.noSelect ops = true := by kernel_rfl) (hf : Region.free .any ops listed i = true := by kernel_rfl) (hr : (Region.ready .any ops listed).contains i = true := by kernel_rfl) (hQ : ∀ c a w, Q (.panic c) (a.put o.dst undef) w → Q (.panic c) a w := by exact fun _ _ _ h => h)
  (hg : o.guard = some (j, b) := by exact rfl) (hj : (ops[j]?).bind (·.dst) = some e := by kernel_rfl) (hb : Nat.blt e n = true := by exact rfl) (hv : f e = .bool (!b) := by kernel_rfl) (hd : o.dst = some d := by exact rfl) : WH P ops Q S (fuel + 1) listed n f w := h_pass i hi hs hf hr hQ HS (wantsN j e b hg hj hb hv) hd k
theorem zhd0 (i : Nat) (k : ∀ K : Act → World → Prop, (∀ g w', S w' → (WH P ops Q S fuel (listed.setIfInBounds i true) n g w') → K (fr n g) w') → WO P o K Q n f w) (hi : ops[i]? = some o := by exact rfl) (hr : Region.ready .any ops listed = [i] := by kernel_rfl) (hg : o.guard = none := by exact rfl) : WH P ops Q S (fuel + 1) listed n f w := h_do i hi hr (wants0 hg) k
theorem zhf (h : Q .normal (fr n f) w) (hr : Region.ready .any ops listed = [] := by kernel_rfl) : WH P ops Q S fuel listed n f w := h_fin hr h
theorem zkp (i : Nat) (HS : S w) (d : Nat) (v : Value) (k : WK P ops Q S (memN B) fuel (listed.setIfInBounds i true) n (upd f d v) w) (hi : ops[i]? = some o := by exact rfl) (hs : Region.noSelect ops = true := by kernel_rfl) (hf : Region.free .any ops listed i = true := by kernel_rfl) (hr : (Region.ready .any ops listed).contains i = true := by kernel_rfl) (hQ : ∀ c a w, Q (.panic c) (a.put o.dst v) w → Q (.panic c) a w := by exact fun _ _ _ h => h)
  (hg : o.guard = none := by exact rfl) (hiB : memN B i = false := by exact rfl) (hd : o.dst = some d := by exact rfl) (he : ∀ w, (execOp (ev n f) o).run P w = .ok (.value v) w := by exact fun _ => by kernel_rfl) : WK P ops Q S (memN B) (fuel + 1) listed n f w := k_pure i hi hs hf hr hQ HS (wants0 hg) hiB hd he k
theorem zkv (i : Nat) (HS : S w) (d : Nat) (v : Value) (k : WK P ops Q S (memN B) fuel (listed.setIfInBounds i true) n (upd f d v) w) (hi : ops[i]? = some o := by exact rfl) (hs : Region.noSelect ops = true := by kernel_rfl) (hf : Region.free .any ops listed i = true := by kernel_rfl) (hr : (Region.ready .any ops listed).contains i = true := by kernel_rfl) (hQ : ∀ c a w, Q (.panic c) (a.put o.dst v) w → Q (.panic c) a w := by exact fun _ _ _ h => h)
  (hg : o.guard = none := by exact rfl) (hiB : memN B i = false := by exact rfl) (hB : waitB ops B i = true := by kernel_rfl) (hd : o.dst = some d := by exact rfl) (he : ∀ w, S w → (execOp (ev n f) o).run P w = .ok (.value v) w := by exact fun _ _ => by kernel_rfl) : WK P ops Q S (memN B) (fuel + 1) listed n f w := k_val i hi hs hf hr hQ HS (wants0 hg) hiB hB hd he k
theorem zkd0 (i : Nat) (k : ∀ K : Act → World → Prop, (∀ g w', S w' → (WK P ops Q S (memN B) fuel (listed.setIfInBounds i true) n g w') → K (fr n g) w') → WO P o K Q n f w) (hi : ops[i]? = some o := by exact rfl) (hr : Region.ready .any ops listed = [i] := by kernel_rfl) (hg : o.guard = none := by exact rfl) (hiB : memN B i = false := by exact rfl) : WK P ops Q S (memN B) (fuel + 1) listed n f w := k_do i hi hr (wants0 hg) hiB k
theorem zqs {Q : Exit → Act → World → Prop} {id : Nat} {l : List Oper} (H : Sat w0 G w) (k : WQ P l.toArray (Sat w0 G) (fun a' => ∀ w', Sat w0 G w' → Q .normal a' w') l n f) (hm : P.follows .mixedOrders = true := by kernel_rfl) (hB : Region.lexB .any l.toArray = true := by kernel_rfl) : WC P (Code.region id l.toArray true) Q n f w := q_start H hm hB k
end
section
variable {P : Program} {Q : Exit → Act → World → Prop} {n : Nat} {f : Nat → Value} {w0 w w' : World} {G : List Ck} {dst : Option Tmp} {ty : TypeId} {pos : String} {aft : Array Edge} {gd : Option (Nat × Bool)} {K : Act → World → Prop} {o : Oper} {ops : Array Oper} {rest : List Oper}
theorem zds {T : TypeId} {x y : Operand} {b q : Nat} {E : TypeId} {cs : List Value} {u : Value} (vs cs' : List Value) (H : Sat w0 G w) (i : Nat) (k : ∀ w', Sat w0 (G.set i (cellC b E cs')) w' → K (fr n f) w') (hi : G[i]? = some (cellC b E cs) := by exact rfl) (hx : ev n f x = .pointer (some ⟨b, q, none⟩) := by exact rfl) (hy : ev n f y = u := by exact rfl) (hu : u.cells = ⟨vs⟩ := by exact rfl) (hd : dst = none := by exact rfl) (hN : P.cellsOf T = vs.length := by kernel_rfl) (h0 : 0 < vs.length := by exact Nat.le_of_ble_eq_true (by kernel_rfl)) (ho : q + vs.length ≤ cs.length := by exact Nat.le_of_ble_eq_true (by kernel_rfl)) (h1 : vs.all (·.oneCell') = true := by kernel_rfl) (hs : splice cs q vs = cs' := by kernel_rfl) :
  WO P ⟨dst, .store T x y, ty, pos, aft, gd⟩ K Q n f w := d_storeX hd H i hi hx hy hu hN h0 ho h1 hs k
theorem zds1 {T : TypeId} {x y : Operand} {b q : Nat} {E : TypeId} {cs : List Value} {u : Value} (vs : List Value) (H : Sat w0 G w) (i : Nat) (k : ∀ w', Sat w0 (G.set i (cellC b E vs)) w' → K (fr n f) w') (hi : G[i]? = some (cellC b E cs) := by exact rfl) (hx : ev n f x = .pointer (some ⟨b, q, none⟩) := by exact rfl) (hy : ev n f y = u := by exact rfl) (hu : u.cells = ⟨vs⟩ := by exact rfl) (hd : dst = none := by exact rfl) (hN : P.cellsOf T = vs.length := by kernel_rfl) (h0 : 0 < vs.length := by exact Nat.le_of_ble_eq_true (by kernel_rfl)) (ho : q + vs.length ≤ cs.length := by exact Nat.le_of_ble_eq_true (by kernel_rfl)) (h1 : vs.all (·.oneCell') = true := by kernel_rfl) (hs : splice cs q vs = vs := by kernel_rfl) :
  WO P ⟨dst, .store T x y, ty, pos, aft, gd⟩ K Q n f w := d_storeX hd H i hi hx hy hu hN h0 ho h1 hs k
theorem zda {T : TypeId} {d : Nat} (zs : List Value) (H : Sat w0 G w) (k : ∀ b w', Sat w0 (G ++ [cellC b T zs]) w' → K (fr n (upd f d (.pointer (some ⟨b, 0, none⟩)))) w') (hz : (P.info? T).bind (·.zero) = some (.agg ⟨zs⟩) := by kernel_rfl) (hd : dst = some d := by exact rfl) : WO P ⟨dst, .alloc T, ty, pos, aft, gd⟩ K Q n f w := d_alloc hd H hz rfl k
theorem zdb {T : TypeId} {x : Operand} {v : Value} {d : Nat} (vs : List Value) (H : Sat w0 G w) (k : ∀ b w', Sat w0 (G ++ [cellC b T vs]) w' → K (fr n (upd f d (.pointer (some ⟨b, 0, none⟩)))) w') (hx : ev n f x = v := by exact rfl) (hvs : v.cells = ⟨vs⟩ := by exact rfl) (hd : dst = some d := by exact rfl) : WO P ⟨dst, .box T x, ty, pos, aft, gd⟩ K Q n f w := d_box hd H hx hvs k
theorem zdbs {T : TypeId} {N : Nat} {parts : Array (Nat × Operand)} {d : Nat} (e size bytes : Nat) (z : Value) (pvs : List (Nat × Value)) (vs : List Value) (H : Sat w0 G w) (kk : ∀ b w', Sat w0 (G ++ [rowC e size (.slice (some ⟨b, 0, none⟩) N N) N vs]) w' → K (fr n (upd f d (.slice (some ⟨b, 0, none⟩) N N))) w') (hd : dst = some d := by exact rfl) (hR : rowTy P T e size bytes = true := by kernel_rfl) (hz : (P.info? e).bind (·.zero) = some z := by kernel_rfl)
  (hp : (parts.map fun q => (q.1, ev n f q.2)).toList = pvs := by kernel_rfl) (hf : Instr.fill (fun j => some (j * size, size)) ((Array.range (N * size)).map fun q => z.cells[q % z.cells.size]!) pvs = some ⟨vs⟩ := by kernel_rfl) (hl : Nat.beq vs.length (N * size) = true := by kernel_rfl) (hN : Nat.blt 0 N = true := by exact rfl) (hsz : Nat.ble (N * size) 16777216 = true := by exact rfl) : WO P ⟨dst, .buildSlice T N parts, ty, pos, aft, gd⟩ K Q n f w := d_buildSlice hd H hR hz hp hf hl hN hsz kk
theorem zdc {g : FuncId} {args : Array Value} {R : Ending → World → Prop} (d : Nat) (hc : Calls P g args w R) (k : ∀ e w'', R e w'' → ∃ v, e = .returned v ∧ K (fr n (upd f d v)) w'') (hd : o.dst = some d := by exact rfl) (hr : (execOp (ev n f) o).run P w = .ok (.enter g args) w := by kernel_rfl) : WO P o K Q n f w := d_call hd hr hc k
theorem zdq {g : FuncId} {args : Array Value} {v : Value} (d : Nat) (hc : Calls P g args w fun e w'' => e = .returned v ∧ Upd [] w w'') (H : Sat w0 G w) (k : ∀ w'', Sat w0 G w'' → K (fr n (upd f d v)) w'') (hd : o.dst = some d := by exact rfl) (hr : (execOp (ev n f) o).run P w = .ok (.enter g args) w := by kernel_rfl) : WO P o K Q n f w := d_call hd hr hc fun e w'' h => ⟨v, h.1, k w'' (H.keepU h.2)⟩
theorem zwN {b t : Nat} {cs : List Value} {E : TypeId} {fz : Nat × Nat} {T : TypeId} {x : Operand} (d : Nat) (vs : List Value) (hb : w.heap[b]? = some (.cells ⟨cs⟩ E fz)) (k : WL P ops Q rest n (upd f d (.agg ⟨vs⟩)) w) (hx : ev n f x = .pointer (some ⟨b, t, none⟩) := by exact rfl) (hT : aggTy P T = true := by kernel_rfl) (hN : P.cellsOf T = vs.length := by kernel_rfl) (h0 : 0 < vs.length := by exact Nat.le_of_ble_eq_true (by kernel_rfl)) (hv : (cs.drop t).take vs.length = vs := by kernel_rfl) (hg : gd = none := by exact rfl) (hd : dst = some d := by exact rfl) : WL P ops Q (⟨dst, .load T x, ty, pos, aft, gd⟩ :: rest) n f w := wl_pure (wants0 hg) hd (e_loadN hx hT hN h0 hb hv) k
theorem zwi {o : Oper} (d : Nat) (z : Int) (k : WL P ops Q rest n (upd f d (.int .i64 z)) w) (h : -9223372036854775808 ≤ z ∧ z ≤ 9223372036854775807 := by omega) (hr : (execOp (ev n f) o).run P w = .ok (.value (.int .i64 (IntKind.i64.wrap z))) w := by kernel_rfl) (hg : o.guard = none := by exact rfl) (hd : o.dst = some d := by exact rfl) : WL P ops Q (o :: rest) n f w := wl_pure (wants0 hg) hd (e_int hr (IntWalk.i64_in _ h)) k
theorem zw1 {p : Addr} {T : TypeId} {x : Operand} (d : Nat) (v : Value) (hc : w.cell? p = some v) (k : WL P ops Q rest n (upd f d v) w) (hx : ev n f x = .pointer (some p) := by exact rfl) (hT : cellTy P T = true := by kernel_rfl) (hg : gd = none := by exact rfl) (hd : dst = some d := by exact rfl) : WL P ops Q (⟨dst, .load T x, ty, pos, aft, gd⟩ :: rest) n f w := wl_pure (wants0 hg) hd (e_load1 hx hT hc) k
end
section
variable {P : Program} {fn : Func} {R : Ending → World → Prop} {n : Nat} {f : Nat → Value} {w : World}
theorem ze1 {t : Nat} (v : Value) (h : R (.returned v) w) (hr : fn.results = #[.tmp t] := by exact rfl) (h1 : ev n f (.tmp t) = v := by exact rfl) : bodyPost P fn R .ret (fr n f) w := end1 hr (res_tmp h1) h
theorem ze2 {t s : Nat} (v u : Value) (h : R (.returned (.tuple #[v, u])) w) (hr : fn.results = #[.tmp t, .tmp s] := by exact rfl) (h1 : ev n f (.tmp t) = v := by exact rfl) (h2 : ev n f (.tmp s) = u := by exact rfl) : bodyPost P fn R .ret (fr n f) w := end2 hr (res_tmp h1) (res_tmp h2) h
end
theorem zs {ws : List Nat} {f F : Nat → Value} (h : Same ws f F := by repeat (first | exact same_refl | exact same_ovr | refine same_upd rfl ?_ | refine same_ovr2 rfl ?_)) : Same ws f F := h
section
variable {w0 w w' : World} {G L : List Ck}
theorem Sat.pk (h : Sat w0 G w) (is : List Nat) (hn : is.Pairwise (fun a b => Nat.beq a b = false) := by decide) : Sat w0 (is.filterMap fun i => G[i]?) w := h.pick is hn
theorem Sat.fn (H : Sat w0 G w) (is : List Nat) (hn : is.Pairwise (fun a b => Nat.beq a b = false) := by decide) (hL : (is.filterMap fun i => G[i]?) = L := by rfl) : (sepC L).ok w := H.fin is hn hL
theorem Sat.tl (H : Sat w0 G w) (L' : List Ck) (is js : List Nat) (h : Sat w (L' ++ [restC w (sepC L).fp]) w') (ps : List Nat) (hn : (is ++ js).Pairwise (fun a b => Nat.beq a b = false) := by decide) (hi : (is.filterMap fun i => G[i]?) = L := by kernel_rfl) (hp : ps.Pairwise (fun a b => Nat.beq a b = false) := by decide) : Sat w0 (ps.filterMap fun i => (L' ++ (js.filterMap fun i => G[i]?))[i]?) w' := (Sat.turnL (L' := L') H is js hn hi rfl h).pick ps hp
end
section
variable {P : Program} {Q Q' : Exit → Act → World → Prop} {n : Nat} {f : Nat → Value} {w w0 w' : World} {G : List Ck} {o : Oper} {ops : Array Oper}
theorem zl1 {p : Addr} {v : Value} {T : TypeId} {x : Operand} {dst : Option Tmp} {ty : TypeId} {pos : String} {aft : Array Edge} {gd : Option (Nat × Bool)} (hc : w.cell? p = some v) (hx : ev n f x = .pointer (some p) := by exact rfl) (hT : cellTy P T = true := by kernel_rfl) : (execOp (ev n f) ⟨dst, .load T x, ty, pos, aft, gd⟩).run P w = .ok (.value v) w := e_load1 hx hT hc
theorem zlN {b o : Nat} {cs vs : List Value} {E : TypeId} {fz : Nat × Nat} {T : TypeId} {x : Operand} {dst : Option Tmp} {ty : TypeId} {pos : String} {aft : Array Edge} {gd : Option (Nat × Bool)} (hb : w.heap[b]? = some (.cells ⟨cs⟩ E fz)) (hx : ev n f x = .pointer (some ⟨b, o, none⟩) := by exact rfl) (hT : aggTy P T = true := by kernel_rfl) (hN : P.cellsOf T = vs.length := by kernel_rfl) (h0 : 0 < vs.length := by exact Nat.le_of_ble_eq_true (by kernel_rfl)) (hv : (cs.drop o).take vs.length = vs := by kernel_rfl) : (execOp (ev n f) ⟨dst, .load T x, ty, pos, aft, gd⟩).run P w = .ok (.value (.agg ⟨vs⟩)) w := e_loadN hx hT hN h0 hb hv
end
structure Signed where
 p : Int
 s : List UInt8
 deriving DecidableEq
def signedV (x : Signed) : Value := .agg #[.int .i64 x.p, strV x.s]
theorem signed_eq (w : World) (x y : Signed) : (Op.equal 176 (signedV x) (signedV y)).run Tryz.prog w = .ok (decide (x = y)) w := by
 simp only [Op.equal, Op.maxDepth, signedV, strV]
 simp [go_sem]
 obtain ⟨x1, x2⟩ := x
 obtain ⟨y1, y2⟩ := y
 have := strV_eq x2 y2
 by_cases h1 : x1 = y1 <;> by_cases h2 : x2 = y2 <;> simp_all
theorem signed_check (w : World) (em : Bool) (x : Signed) : (Instr.checkKey em 10000 176 (signedV x)).run Tryz.prog w = .ok () w := by
 have h : ∀ n, (Instr.checkKey em (n + 2) 176 (signedV x)).run Tryz.prog w = .ok () w := fun n => by simp [Instr.checkKey, signedV, strV, go_sem]
 exact h 9998
theorem signedK : KeyTy Tryz.prog 176 signedV := KeyTy.deep (by kernel_rfl) signed_check signed_eq (by
 intro a
 simp [signedV, strV, Instr.sameBits, strV_beq])
def marks (l : List Signed) : List (Signed × Int) := l.zipIdx.map fun x => (x.1, (x.2 : Int) + 1)
def markOf (l : List Signed) (x : Signed) : Int := ((l.idxOf? x).map fun i => (i : Int) + 1).getD 0
def signL (l : List Signed) (x : Signed) : List Signed := if x ∈ l then l else l ++ [x]
def BookAt (w : World) (b mb : Nat) (l : List Signed) : Prop := w.heap[b]? = some (.cells #[.map (some mb)] 179) ∧ b ≠ mb ∧ MapAt w mb signedV (Value.int .i64) (marks l)
theorem marks_keys (l : List Signed) : (marks l).map (·.1) = l := by
 simp [marks, List.map_map, Function.comp_def]
theorem marks_at (l : List Signed) (i : Nat) : (marks l)[i]? = (l[i]?).map fun x => (x, (i : Int) + 1) := by
 simp [marks, List.getElem?_map, List.getElem?_zipIdx, Function.comp_def]
theorem look_marks (l : List Signed) (x : Signed) : lookM (marks l) x = (l.idxOf? x).map fun i => (i : Int) + 1 := by
 rw [lookM_idx, marks_keys]
 cases h : l.idxOf? x with
 | none => simp
 | some i =>
  obtain ⟨h1, _⟩ := List.idxOf?_eq_some_iff.1 h
  simp [marks_at, List.getElem?_eq_getElem h1]
theorem put_marks (l : List Signed) (x : Signed) (h : x ∉ l) : putM (marks l) x ((l.length : Int) + 1) = marks (l ++ [x]) := by
 unfold putM
 rw [marks_keys, if_neg h]
 simp [marks, List.zipIdx_append]
theorem marks_len (l : List Signed) : (marks l).length = l.length := by simp [marks]
theorem BookAt.upd {w w' : World} {b mb : Nat} {l : List Signed} {D : List Nat} (h : BookAt w b mb l) (hu : Upd D w w') (h1 : b ∉ D) (h2 : mb ∉ D) : BookAt w' b mb l := ⟨hu.at h.1 h1, h.2.1, h.2.2.upd hu h2⟩
theorem BookAt.lt {w : World} {b mb : Nat} {l : List Signed} (h : BookAt w b mb l) : b < w.heap.size ∧ mb < w.heap.size := ⟨heap_lt h.1, h.2.2.lt⟩
theorem BookAt.alloc {w : World} {b mb : Nat} {l : List Signed} (h : BookAt w b mb l) (o : Obj) : BookAt (w.alloc o) b mb l := h.upd ((Upd.refl [] w).alloc o) (by simp) (by simp)
theorem BookAt.drew {w : World} {b mb : Nat} {l : List Signed} (h : BookAt w b mb l) : BookAt w.drew b mb l := h.upd ((Upd.refl [] w).drew) (by simp) (by simp)
theorem markOf_none {l : List Signed} {x : Signed} (h : x ∉ l) : markOf l x = 0 := by
 have : l.idxOf? x = none := List.idxOf?_eq_none_iff.2 h
 simp [markOf, this]
theorem markOf_pos {l : List Signed} {x : Signed} (h : x ∈ l) : 1 ≤ markOf l x ∧ markOf l x ≤ l.length := by
 cases hi : l.idxOf? x with
 | none => exact absurd h (List.idxOf?_eq_none_iff.1 hi)
 | some i =>
  obtain ⟨h1, _⟩ := List.idxOf?_eq_some_iff.1 hi
  simp [markOf, hi]; omega
def rightB (l : List Signed) (p mk : Int) (s : List UInt8) : Bool := decide (0 < markOf l ⟨p, s⟩ ∧ markOf l ⟨p, s⟩ = mk)
theorem signL_mem (l : List Signed) (x : Signed) : x ∈ signL l x := by unfold signL; split <;> simp_all
theorem signL_of_mem {l : List Signed} {x : Signed} (h : x ∈ l) : signL l x = l := if_pos h
theorem signL_sub {l : List Signed} {x y : Signed} (h : y ∈ l) : y ∈ signL l x := by unfold signL; split <;> simp_all
theorem signL_len (l : List Signed) (x : Signed) : (signL l x).length ≤ l.length + 1 := by unfold signL; split <;> simp
theorem markOf_app {l : List Signed} {y : Signed} (h : y ∈ l) (m : List Signed) : markOf (l ++ m) y = markOf l y := by
 have : (l ++ m).idxOf? y = l.idxOf? y := by
  cases hi : l.idxOf? y with
  | none => exact absurd h (List.idxOf?_eq_none_iff.1 hi)
  | some i =>
   obtain ⟨h1, h2, h3⟩ := List.idxOf?_eq_some_iff.1 hi
   rw [List.idxOf?_eq_some_iff]
   refine ⟨by simp; omega, by rw [List.getElem_append_left h1]; exact h2, fun j hj => ?_⟩
   rw [List.getElem_append_left (by omega)]
   exact h3 j hj
 simp [markOf, this]
theorem markOf_signL {l : List Signed} {x y : Signed} (h : y ∈ l) : markOf (signL l x) y = markOf l y := by
 unfold signL; split
 ·rfl
 ·exact markOf_app h _
section
variable {P : Program} {n : Nat} {f : Nat → Value} {w : World} {dst : Option Tmp} {ty : TypeId} {pos : String} {aft : Array Edge} {gd : Option (Nat × Bool)}
theorem e_convBytes {S D e : TypeId} {x : Operand} {v : Value} {s : List UInt8} (hs : P.underlying S = some (.slice e)) (he : P.underlying e = some (.int .u8)) (hd : P.underlying D = some .string) (hx : ev n f x = v) (hb : BytesAt w v s) :
  (execOp (ev n f) ⟨dst, .convert S D x, ty, pos, aft, gd⟩).run P w = .ok (.value (strV s)) w := by
 simp [execOp, hx, run_bytes_string hb hs he hd, Result.andThen]
theorem e_eqStr {T U : TypeId} {x y : Operand} (a b : List UInt8) (hx : ev n f x = strV a) (hy : ev n f y = strV b) :
  (execOp (ev n f) ⟨dst, .binOp .eql T x y U, ty, pos, aft, gd⟩).run P w = .ok (.value (.bool (decide (a = b)))) w := by
 have : Op.stringOp .eql ⟨a.toArray⟩ ⟨b.toArray⟩ = pure (.bool (decide (a = b))) := by
  simp only [Op.stringOp, ByteArray.toList_mk]
  congr 2
  rw [Bool.eq_iff_iff]; simp
 simp [execOp, hx, hy, strV, binOp, eqGuard, this]
end
section
variable {P : Program} {n : Nat} {f : Nat → Value} {w w' : World} {dst : Option Tmp} {ty : TypeId} {pos : String} {aft : Array Edge} {gd : Option (Nat × Bool)} {w0 : World} {G : List Ck} {K : Act → World → Prop} {Q : Exit → Act → World → Prop}
theorem run_sliceHi {T E : TypeId} {a : Option Addr} {len cap : Nat} {k : IntKind} {z : Int} {i : TypeInfo} (hT : P.underlying T = some (.slice E)) (hi : P.info? E = some i) (h1 : 0 ≤ z) (h2 : z ≤ cap) :
  (Instr.slice T (.slice a len cap) none (some (.int k z)) none).run P w = .ok (.slice a z.toNat cap) w := by
 have e0 : a.map (·.add (0 * i.size)) = a := by cases a <;> simp [Addr.add]
 simp [Instr.slice, run_underlying hT, Instr.sliceBounds, Instr.sliceBound, asIntOf, h1, h2, Result.andThen, sizeOf, typeInfo, hi]
 intro _
 cases a <;> simp [Addr.add]
end
section
variable {α : Type} {w W : World} {v : Value} {b o q : Nat}
theorem cells_at {vs : List Value} (h : RunAt w ⟨b, o, none⟩ vs) (d : Nat) {u : Value} (hu : vs[d]? = some u) (hq : q = o + d) : w.cell? ⟨b, q, none⟩ = some u := by
 have := h d u hu
 rw [Addr.add_lit] at this
 rw [hq]; exact this
theorem cells_run {vs us : List Value} (h : RunAt w ⟨b, o, none⟩ vs) (d : Nat) (hu : (vs.drop d).take us.length = us) (hq : q = o + d) : RunAt w ⟨b, q, none⟩ us := by
 intro j u hj
 have hl : j < us.length := (List.getElem?_eq_some_iff.1 hj).1
 rw [Addr.add_lit]
 refine cells_at h (d + j) ?_ (by omega)
 rw [← hu, List.getElem?_take, if_pos hl, List.getElem?_drop] at hj
 exact hj
theorem Sat.runR {w0 : World} {G : List Ck} {D : Nat → Prop} (H : Sat w0 G w) (i : Nat) (hi : G[i]? = some (restC W D)) {vs : List Value} (h : RunAt W ⟨b, o, none⟩ vs) (hD : ¬ D b) : RunAt w ⟨b, o, none⟩ vs := fun j u hj => by
 have := h j u hj
 rw [Addr.add_lit] at this ⊢
 exact H.cellR i hi this hD
theorem IntsAt.atD {s : List Int} (h : IntsAt w v s) {i : Nat} (hi : i < s.length) : ∃ b o cap, v = .slice (Option.some ⟨b, o, none⟩) s.length cap ∧ RunAt w ⟨b, o + i * 1, none⟩ [.int .i64 (s.getD i 0)] := by
 obtain ⟨b, o, cap, e, _, h⟩ := h.some (by omega)
 refine ⟨b, o, cap, e, fun j u hj => ?_⟩
 match j, hj with
 | 0, hj =>
  simp only [List.getElem?_cons_zero, Option.some.injEq] at hj
  subst hj
  rw [Addr.add_lit]
  simpa using h i hi
theorem SliceOf.atD {L : α → List Value} {sz : Nat} {s : List α} (h : SliceOf (fun w a x => RunAt w a (L x)) sz w v s) (d : α) {i : Nat} (hi : i < s.length) : ∃ b o cap, v = .slice (Option.some ⟨b, o, none⟩) s.length cap ∧ RunAt w ⟨b, o + i * sz, none⟩ (L (s.getD i d)) := by
 obtain ⟨b, o, cap, e, _, h⟩ := SliceOf.some h (by omega)
 refine ⟨b, o, cap, e, ?_⟩
 have := h i hi
 rwa [show s.getD i d = s[i] by simp [List.getD, List.getElem?_eq_getElem hi]]
end
section
variable {P : Program} {n : Nat} {f : Nat → Value} {w : World} {dst : Option Tmp} {ty : TypeId} {pos : String} {aft : Array Edge} {gd : Option (Nat × Bool)}
theorem e_indexAddrW {T E : TypeId} {x y : Operand} {v : Value} {b o len cap sz : Nat} {k : IntKind} {z : Int} (hT : P.underlying T = some (.slice E)) (hs : P.cellsOf E = sz) (h0 : 0 < sz) (hx : ev n f x = v) (hv : v = .slice (some ⟨b, o, none⟩) len cap) (hy : ev n f y = .int k z) (h1 : 0 ≤ z) (h2 : z < len) :
  (execOp (ev n f) ⟨dst, .indexAddr T x y, ty, pos, aft, gd⟩).run P w = .ok (.value (.pointer (some ⟨b, o + z.toNat * sz, none⟩))) w :=
 e_indexAddr hT hs h0 (hx.trans hv) hy h1 h2
end
end Go.Proofs.YtenihpghfdcpkaaGreat
