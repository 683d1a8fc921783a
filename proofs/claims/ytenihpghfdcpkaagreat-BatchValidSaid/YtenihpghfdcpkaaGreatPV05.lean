/- WHAT IS PROVED: contracts and plain laws of Sh2, Sh3, Sh4, BookD, StrB, RowSt. Conditions: stated with each. -/
import Derived.Test.YtenihpghfdcpkaaGreatPV02
import Derived.Test.YtenihpghfdcpkaaGreatPV03
import Derived.Test.YtenihpghfdcpkaaGreatPV04
set_option maxHeartbeats 4000000
set_option maxRecDepth 100000
namespace Go.Proofs.YtenihpghfdcpkaaGreat
open Go.RowKit
section
variable {P : Program} {Q Q' : Exit → Act → World → Prop} {n : Nat} {f : Nat → Value} {w w0 w' : World} {G : List Ck} {o : Oper} {ops : Array Oper}
theorem ztn {y : Code} (h : WC P y Q' n f w) : Exit.then (y.wp P Q') Q .normal (fr n f) w := h.h
theorem znt {y : Code} (h : WC P y Q' n f w) : WL P ops (Exit.then (y.wp P Q') Q) [] n f w := ZL h.h
theorem zsl {id : Nat} {l : List Oper} {y : Code} (h : WL P l.toArray (Exit.then (y.wp P Q) Q) l n f w) : WC P (Code.seq (Code.region id l.toArray false) y) Q n f w := Z9 (ZG h)
theorem Z1a {id : Nat} {l : List Oper} {y : Code} (h : WL P l.toArray (Exit.then (y.wp P Q') Q') l n f w) : WL P ops (Exit.then ((Code.seq (Code.region id l.toArray false) y).wp P Q') Q) [] n f w := znt (zsl h)
theorem zxb {next : Act → World → Prop} {ws : List Nat} {F : Nat → Value} {R : (Nat → Value) → World → Nat → Prop} {m : Nat} {id : Nat} (h : Q .normal (fr n f) w) : WC P (Code.exit id) (Exit.then next (Back n ws F R m (Exit.inBlock id Q))) n f w := Z8T (Z4g (Z5a (Z70 h)))
theorem Z48 {d : Nat} {x y : Code} (b : Bool) (hb : b = true) (k : WC P x Q n (upd f d (.bool true)) w) (hf : f d = .bool b := by exact rfl) (he : ev n (upd f d (.bool true)) (.tmp d) = .bool true := by exact rfl) : WC P (Code.cond (.tmp d) x y) Q n f w := Zn d (.bool true) (hf.trans (congrArg Value.bool hb)) (Z06 he k)
theorem Z3L {d : Nat} {x y : Code} (b : Bool) (hb : b = false) (k : WC P y Q n (upd f d (.bool false)) w) (hf : f d = .bool b := by exact rfl) (he : ev n (upd f d (.bool false)) (.tmp d) = .bool false := by exact rfl) : WC P (Code.cond (.tmp d) x y) Q n f w := Zn d (.bool false) (hf.trans (congrArg Value.bool hb)) (Z2h he k)
end
section
variable {P : Program} {ops : Array Oper} {S : World → Prop} {Q : Exit → Act → World → Prop} {n : Nat} {f : Nat → Value} {w0 w w' : World} {o : Oper} {G : List Ck} {listed : Array Bool} {fuel : Nat} {B : List Nat}
theorem Z0U (i : Nat) (HS : S w) (j e : Nat) (b : Bool) (d : Nat) (v : Value) (k : WH P ops Q S fuel (listed.setIfInBounds i true) n (upd f d v) w) (hi : ops[i]? = some o := by exact rfl) (hs : Region.noSelect ops = true := by kernel_rfl) (hf : Region.free .any ops listed i = true := by kernel_rfl) (hr : (Region.ready .any ops listed).contains i = true := by kernel_rfl) (hQ : ∀ c a w, Q (.panic c) (a.put o.dst v) w → Q (.panic c) a w := by exact fun _ _ _ h => h)
  (hg : o.guard = some (j, b) := by exact rfl) (hj : (ops[j]?).bind (·.dst) = some e := by kernel_rfl) (hb : Nat.blt e n = true := by exact rfl) (hv : f e = .bool b := by kernel_rfl) (hd : o.dst = some d := by exact rfl) (he : ∀ w, S w → (execOp (ev n f) o).run P w = .ok (.value v) w := by exact fun _ _ => by kernel_rfl) : WH P ops Q S (fuel + 1) listed n f w := Z0V i hi hs hf hr hQ HS (Z05 j e b hg hj hb hv) hd he k
theorem Zu {d : Nat} (i : Nat) (HS : S w) (j e : Nat) (b : Bool) (k : WH P ops Q S fuel (listed.setIfInBounds i true) n (upd f d undef) w) (hi : ops[i]? = some o := by exact rfl) (hs : Region.noSelect ops = true := by kernel_rfl) (hf : Region.free .any ops listed i = true := by kernel_rfl) (hr : (Region.ready .any ops listed).contains i = true := by kernel_rfl) (hQ : ∀ c a w, Q (.panic c) (a.put o.dst undef) w → Q (.panic c) a w := by exact fun _ _ _ h => h)
  (hg : o.guard = some (j, b) := by exact rfl) (hj : (ops[j]?).bind (·.dst) = some e := by kernel_rfl) (hb : Nat.blt e n = true := by exact rfl) (hv : f e = .bool (!b) := by kernel_rfl) (hd : o.dst = some d := by exact rfl) : WH P ops Q S (fuel + 1) listed n f w := h_pass i hi hs hf hr hQ HS (Zc5 j e b hg hj hb hv) hd k
theorem zhd0 (i : Nat) (k : ∀ K : Act → World → Prop, (∀ g w', S w' → (WH P ops Q S fuel (listed.setIfInBounds i true) n g w') → K (fr n g) w') → WO P o K Q n f w) (hi : ops[i]? = some o := by exact rfl) (hr : Region.ready .any ops listed = [i] := by kernel_rfl) (hg : o.guard = none := by exact rfl) : WH P ops Q S (fuel + 1) listed n f w := Z34 i hi hr (Zc hg) k
theorem zhf (h : Q .normal (fr n f) w) (hr : Region.ready .any ops listed = [] := by kernel_rfl) : WH P ops Q S fuel listed n f w := Z8i hr h
theorem zkp (i : Nat) (HS : S w) (d : Nat) (v : Value) (k : WK P ops Q S (Z3k B) fuel (listed.setIfInBounds i true) n (upd f d v) w) (hi : ops[i]? = some o := by exact rfl) (hs : Region.noSelect ops = true := by kernel_rfl) (hf : Region.free .any ops listed i = true := by kernel_rfl) (hr : (Region.ready .any ops listed).contains i = true := by kernel_rfl) (hQ : ∀ c a w, Q (.panic c) (a.put o.dst v) w → Q (.panic c) a w := by exact fun _ _ _ h => h)
  (hg : o.guard = none := by exact rfl) (hiB : Z3k B i = false := by exact rfl) (hd : o.dst = some d := by exact rfl) (he : ∀ w, (execOp (ev n f) o).run P w = .ok (.value v) w := by exact fun _ => by kernel_rfl) : WK P ops Q S (Z3k B) (fuel + 1) listed n f w := Z2s i hi hs hf hr hQ HS (Zc hg) hiB hd he k
theorem zkv (i : Nat) (HS : S w) (d : Nat) (v : Value) (k : WK P ops Q S (Z3k B) fuel (listed.setIfInBounds i true) n (upd f d v) w) (hi : ops[i]? = some o := by exact rfl) (hs : Region.noSelect ops = true := by kernel_rfl) (hf : Region.free .any ops listed i = true := by kernel_rfl) (hr : (Region.ready .any ops listed).contains i = true := by kernel_rfl) (hQ : ∀ c a w, Q (.panic c) (a.put o.dst v) w → Q (.panic c) a w := by exact fun _ _ _ h => h)
  (hg : o.guard = none := by exact rfl) (hiB : Z3k B i = false := by exact rfl) (hB : ZeZ ops B i = true := by kernel_rfl) (hd : o.dst = some d := by exact rfl) (he : ∀ w, S w → (execOp (ev n f) o).run P w = .ok (.value v) w := by exact fun _ _ => by kernel_rfl) : WK P ops Q S (Z3k B) (fuel + 1) listed n f w := ZbS i hi hs hf hr hQ HS (Zc hg) hiB hB hd he k
theorem zqs {Q : Exit → Act → World → Prop} {id : Nat} {l : List Oper} (H : Sat w0 G w) (k : WQ P l.toArray (Sat w0 G) (fun a' => ∀ w', Sat w0 G w' → Q .normal a' w') l n f) (hm : P.follows .mixedOrders = true := by kernel_rfl) (hB : Region.lexB .any l.toArray = true := by kernel_rfl) : WC P (Code.region id l.toArray true) Q n f w := ZeI H hm hB k
end
section
variable {P : Program} {Q : Exit → Act → World → Prop} {n : Nat} {f : Nat → Value} {w0 w w' : World} {G : List Ck} {dst : Option Tmp} {ty : TypeId} {pos : String} {aft : Array Edge} {gd : Option (Nat × Bool)} {K : Act → World → Prop} {o : Oper} {ops : Array Oper} {rest : List Oper}
theorem zds {T : TypeId} {x y : Operand} {b q : Nat} {E : TypeId} {cs : List Value} {u : Value} (vs cs' : LV) (H : Sat w0 G w) (i : Nat) (k : ∀ w', Sat w0 (G.set i (Z0 b E cs')) w' → K (fr n f) w') (hi : G[i]? = some (Z0 b E cs) := by exact rfl) (hx : ev n f x = .pointer (some ⟨b, q, none⟩) := by exact rfl) (hy : ev n f y = u := by exact rfl) (hu : u.cells = ⟨vs⟩ := by exact rfl) (hd : dst = none := by exact rfl) (hN : P.cellsOf T = vs.length := by kernel_rfl) (h0 : 0 < vs.length := by exact Nat.le_of_ble_eq_true (by kernel_rfl)) (ho : q + vs.length ≤ cs.length := by exact Nat.le_of_ble_eq_true (by kernel_rfl)) (h1 : vs.all (·.oneCell') = true := by kernel_rfl) (hs : Z1m cs q vs = cs' := by kernel_rfl) :
  WO P ⟨dst, .store T x y, ty, pos, aft, gd⟩ K Q n f w := Z5m hd H i hi hx hy hu hN h0 ho h1 hs k
theorem Z1S {T : TypeId} {x y : Operand} {b q : Nat} {E : TypeId} {cs : List Value} {u : Value} (vs : LV) (H : Sat w0 G w) (i : Nat) (k : ∀ w', Sat w0 (G.set i (Z0 b E vs)) w' → K (fr n f) w') (hi : G[i]? = some (Z0 b E cs) := by exact rfl) (hx : ev n f x = .pointer (some ⟨b, q, none⟩) := by exact rfl) (hy : ev n f y = u := by exact rfl) (hu : u.cells = ⟨vs⟩ := by exact rfl) (hd : dst = none := by exact rfl) (hN : P.cellsOf T = vs.length := by kernel_rfl) (h0 : 0 < vs.length := by exact Nat.le_of_ble_eq_true (by kernel_rfl)) (ho : q + vs.length ≤ cs.length := by exact Nat.le_of_ble_eq_true (by kernel_rfl)) (h1 : vs.all (·.oneCell') = true := by kernel_rfl) (hs : Z1m cs q vs = vs := by kernel_rfl) :
  WO P ⟨dst, .store T x y, ty, pos, aft, gd⟩ K Q n f w := Z5m hd H i hi hx hy hu hN h0 ho h1 hs k
theorem zda {T : TypeId} {d : Nat} (zs : LV) (H : Sat w0 G w) (k : ∀ b w', Sat w0 (G ++ [Z0 b T zs]) w' → K (fr n (upd f d (zp b))) w') (hz : (P.info? T).bind (·.zero) = some (.agg ⟨zs⟩) := by kernel_rfl) (hd : dst = some d := by exact rfl) : WO P ⟨dst, .alloc T, ty, pos, aft, gd⟩ K Q n f w := Zf5 hd H hz rfl k
theorem zdb {T : TypeId} {x : Operand} {v : Value} {d : Nat} (vs : LV) (H : Sat w0 G w) (k : ∀ b w', Sat w0 (G ++ [Z0 b T vs]) w' → K (fr n (upd f d (zp b))) w') (hx : ev n f x = v := by exact rfl) (hvs : v.cells = ⟨vs⟩ := by exact rfl) (hd : dst = some d := by exact rfl) : WO P ⟨dst, .box T x, ty, pos, aft, gd⟩ K Q n f w := ZeA hd H hx hvs k
theorem Z2z {T : TypeId} {N : Nat} {parts : Array (Nat × Operand)} {d : Nat} (e size bytes : Nat) (z : Value) (pvs : List (Nat × Value)) (vs : LV) (H : Sat w0 G w) (kk : ∀ b w', Sat w0 (G ++ [Zo e size (.slice (some ⟨b, 0, none⟩) N N) N vs]) w' → K (fr n (upd f d (.slice (some ⟨b, 0, none⟩) N N))) w') (hd : dst = some d := by exact rfl) (hR : Z5C P T e size bytes = true := by kernel_rfl) (hz : (P.info? e).bind (·.zero) = some z := by kernel_rfl)
  (hp : (parts.map fun q => (q.1, ev n f q.2)).toList = pvs := by kernel_rfl) (hf : Instr.fill (fun j => some (j * size, size)) ((Array.range (N * size)).map fun q => z.cells[q % z.cells.size]!) pvs = some ⟨vs⟩ := by kernel_rfl) (hl : Nat.beq vs.length (N * size) = true := by kernel_rfl) (hN : Nat.blt 0 N = true := by exact rfl) (hsz : Nat.ble (N * size) 16777216 = true := by exact rfl) : WO P ⟨dst, .buildSlice T N parts, ty, pos, aft, gd⟩ K Q n f w := Z4e hd H hR hz hp hf hl hN hsz kk
theorem zdc {g : FuncId} {args : Array Value} {R : Ending → World → Prop} (d : Nat) (hc : Calls P g args w R) (k : ∀ e w'', R e w'' → ∃ v, e = .returned v ∧ K (fr n (upd f d v)) w'') (hd : o.dst = some d := by exact rfl) (hr : (execOp (ev n f) o).run P w = .ok (.enter g args) w := by kernel_rfl) : WO P o K Q n f w := Z10 hd hr hc k
theorem zdq {g : FuncId} {args : Array Value} {v : Value} (d : Nat) (hc : Calls P g args w fun e w'' => e = .returned v ∧ Upd [] w w'') (H : Sat w0 G w) (k : ∀ w'', Sat w0 G w'' → K (fr n (upd f d v)) w'') (hd : o.dst = some d := by exact rfl) (hr : (execOp (ev n f) o).run P w = .ok (.enter g args) w := by kernel_rfl) : WO P o K Q n f w := Z10 hd hr hc fun e w'' h => ⟨v, h.1, k w'' (H.keepU h.2)⟩
theorem zwN {b t : Nat} {cs : List Value} {E : TypeId} {fz : Nat × Nat} {T : TypeId} {x : Operand} (d : Nat) (vs : LV) (hb : w.heap[b]? = some (.cells ⟨cs⟩ E fz)) (k : WL P ops Q rest n (upd f d (.agg ⟨vs⟩)) w) (hx : ev n f x = .pointer (some ⟨b, t, none⟩) := by exact rfl) (hT : Z77 P T = true := by kernel_rfl) (hN : P.cellsOf T = vs.length := by kernel_rfl) (h0 : 0 < vs.length := by exact Nat.le_of_ble_eq_true (by kernel_rfl)) (hv : (cs.drop t).take vs.length = vs := by kernel_rfl) (hg : gd = none := by exact rfl) (hd : dst = some d := by exact rfl) : WL P ops Q (⟨dst, .load T x, ty, pos, aft, gd⟩ :: rest) n f w := Z1H (Zc hg) hd (Z8g hx hT hN h0 hb hv) k
theorem zwi {o : Oper} (d : Nat) (z : Int) (k : WL P ops Q rest n (upd f d (i6 z)) w) (h : -9223372036854775808 ≤ z ∧ z ≤ 9223372036854775807 := by omega) (hr : (execOp (ev n f) o).run P w = .ok (.value (i6 (IntKind.i64.wrap z))) w := by kernel_rfl) (hg : o.guard = none := by exact rfl) (hd : o.dst = some d := by exact rfl) : WL P ops Q (o :: rest) n f w := Z1H (Zc hg) hd (Z0A hr (IntWalk.i64_in _ h)) k
theorem zw1 {p : Addr} {T : TypeId} {x : Operand} (d : Nat) (v : Value) (hc : w.cell? p = some v) (k : WL P ops Q rest n (upd f d v) w) (hx : ev n f x = .pointer (some p) := by exact rfl) (hT : Z7m P T = true := by kernel_rfl) (hg : gd = none := by exact rfl) (hd : dst = some d := by exact rfl) : WL P ops Q (⟨dst, .load T x, ty, pos, aft, gd⟩ :: rest) n f w := Z1H (Zc hg) hd (Zcg hx hT hc) k
end
section
variable {P : Program} {fn : Func} {R : Ending → World → Prop} {n : Nat} {f : Nat → Value} {w : World}
theorem ze1 {t : Nat} (v : Value) (h : R (.returned v) w) (hr : fn.results = #[.tmp t] := by exact rfl) (h1 : ev n f (.tmp t) = v := by exact rfl) : bodyPost P fn R .ret (fr n f) w := Z5v hr (Z0S h1) h
theorem ze2 {t s : Nat} (v u : Value) (h : R (.returned (.tuple #[v, u])) w) (hr : fn.results = #[.tmp t, .tmp s] := by exact rfl) (h1 : ev n f (.tmp t) = v := by exact rfl) (h2 : ev n f (.tmp s) = u := by exact rfl) : bodyPost P fn R .ret (fr n f) w := Z8l hr (Z0S h1) (Z0S h2) h
end
theorem ja {A : Sort _} {a b : A} (h : a = b := by simp only [List.length_append, List.flatMap_append] <;> rfl) : a = b := h
theorem Sat.ct {w0 w : World} {G : List Ck} {Y : Ck} (H : Sat w0 G w) (i : Nat) (hi : G[i]? = some Y) (X : Ck) (e : Y = X) : Sat w0 (G.set i X) w := by
 have h : G.set i X = G := by
  subst e
  refine List.ext_getElem? fun j => ?_
  rw [List.getElem?_set]
  split
  ·rename_i hj
   subst hj
   obtain ⟨h1, _⟩ := List.getElem?_eq_some_iff.1 hi
   rw [if_pos h1, hi]
  ·rfl
 rw [h]; exact H
theorem zs {ws : List Nat} {f F : Nat → Value} (h : ZbG ws f F := by repeat (first | exact Z8Q | exact ZdG | refine ZdB rfl ?_ | refine ZcK rfl ?_)) : ZbG ws f F := h
section
variable {w0 w w' : World} {G L : List Ck}
theorem Sat.pk (h : Sat w0 G w) (is : List Nat) (hn : is.Pairwise (fun a b => Nat.beq a b = false) := by decide) : Sat w0 (is.filterMap fun i => G[i]?) w := h.pick is hn
theorem Sat.fn (H : Sat w0 G w) (is : List Nat) (hn : is.Pairwise (fun a b => Nat.beq a b = false) := by decide) (hL : (is.filterMap fun i => G[i]?) = L := by rfl) : (Z0h L).ok w := H.fin is hn hL
theorem Sat.tl (H : Sat w0 G w) (L' : List Ck) (is js : List Nat) (h : Sat w (L' ++ [ZQ w (Z0h L).fp]) w') (ps : List Nat) (hn : (is ++ js).Pairwise (fun a b => Nat.beq a b = false) := by decide) (hi : (is.filterMap fun i => G[i]?) = L := by kernel_rfl) (hp : ps.Pairwise (fun a b => Nat.beq a b = false) := by decide) : Sat w0 (ps.filterMap fun i => (L' ++ (js.filterMap fun i => G[i]?))[i]?) w' := (Sat.turnL (L' := L') H is js hn hi rfl h).pick ps hp
end
section
variable {P : Program} {Q Q' : Exit → Act → World → Prop} {n : Nat} {f : Nat → Value} {w w0 w' : World} {G : List Ck} {o : Oper} {ops : Array Oper}
theorem zl1 {p : Addr} {v : Value} {T : TypeId} {x : Operand} {dst : Option Tmp} {ty : TypeId} {pos : String} {aft : Array Edge} {gd : Option (Nat × Bool)} (hc : w.cell? p = some v) (hx : ev n f x = .pointer (some p) := by exact rfl) (hT : Z7m P T = true := by kernel_rfl) : (execOp (ev n f) ⟨dst, .load T x, ty, pos, aft, gd⟩).run P w = .ok (.value v) w := Zcg hx hT hc
theorem zlN {b o : Nat} {cs vs : List Value} {E : TypeId} {fz : Nat × Nat} {T : TypeId} {x : Operand} {dst : Option Tmp} {ty : TypeId} {pos : String} {aft : Array Edge} {gd : Option (Nat × Bool)} (hb : w.heap[b]? = some (.cells ⟨cs⟩ E fz)) (hx : ev n f x = .pointer (some ⟨b, o, none⟩) := by exact rfl) (hT : Z77 P T = true := by kernel_rfl) (hN : P.cellsOf T = vs.length := by kernel_rfl) (h0 : 0 < vs.length := by exact Nat.le_of_ble_eq_true (by kernel_rfl)) (hv : (cs.drop o).take vs.length = vs := by kernel_rfl) : (execOp (ev n f) ⟨dst, .load T x, ty, pos, aft, gd⟩).run P w = .ok (.value (.agg ⟨vs⟩)) w := Z8g hx hT hN h0 hb hv
end
theorem kr {A : Sort _} {a b : A} (h : a = b := by kernel_rfl) : a = b := h
theorem om {p : Prop} (h : p := by omega) : p := h
theorem kn {a b : Nat} (h : Nat.ble a b = true := by kernel_rfl) : a ≤ b := Nat.le_of_ble_eq_true h
abbrev vi (z : Int) : Value := i6 z
abbrev vu (z : Int) : Value := u6 z
theorem ne {A : Sort _} {p : A → Prop} : ∀ a : A, False → p a := fun _ h => h.elim
section
variable {P : Program} {ops : Array Oper} {Q Q' : Exit → Act → World → Prop} {n : Nat} {f : Nat → Value} {w w' : World} {o : Oper} {rest : List Oper} {S : World → Prop} {listed : Array Bool} {fuel : Nat} {B : List Nat} {d : Nat} {x y : Code} {id : Nat} {g : Nat → Value} {C : World → Prop} {A : Act → Prop}
structure KL (P : Program) (ops : Array Oper) (Q : Exit → Act → World → Prop) (rest : List Oper) (n : Nat) (a : Act) (w : World) : Prop where
 h : ∃ g, a = fr n g ∧ WL P ops Q rest n g w
theorem kk (h : WL P ops Q rest n g w) : KL P ops Q rest n (fr n g) w := ⟨g, rfl, h⟩
theorem zy (k : WO P o (KL P ops Q rest n) Q n f w) (hg : o.guard = none := by exact rfl) : WL P ops Q (o :: rest) n f w :=
 Z6R (Zc hg) fun K hK => ⟨Oper.wp_mono (fun _ _ h => by obtain ⟨g, rfl, j⟩ := h.h; exact hK _ _ j) k.h⟩
structure KH (P : Program) (ops : Array Oper) (Q : Exit → Act → World → Prop) (S : World → Prop) (fuel : Nat) (listed : Array Bool) (n : Nat) (a : Act) (w : World) : Prop where
 h : ∃ g, a = fr n g ∧ S w ∧ WH P ops Q S fuel listed n g w
theorem kh (s : S w) (h : WH P ops Q S fuel listed n g w) : KH P ops Q S fuel listed n (fr n g) w := ⟨g, rfl, s, h⟩
theorem zhy (i : Nat) (k : WO P o (KH P ops Q S fuel (listed.setIfInBounds i true) n) Q n f w) (hi : ops[i]? = some o := by exact rfl) (hr : Region.ready .any ops listed = [i] := by kernel_rfl) (hg : o.guard = none := by exact rfl) : WH P ops Q S (fuel + 1) listed n f w :=
 Z34 i hi hr (Zc hg) fun K hK => ⟨Oper.wp_mono (fun _ _ h => by obtain ⟨g, rfl, s, j⟩ := h.h; exact hK _ _ s j) k.h⟩
structure KK (P : Program) (ops : Array Oper) (Q : Exit → Act → World → Prop) (S : World → Prop) (B : Nat → Bool) (fuel : Nat) (listed : Array Bool) (n : Nat) (a : Act) (w : World) : Prop where
 h : ∃ g, a = fr n g ∧ S w ∧ WK P ops Q S B fuel listed n g w
theorem ke {B : Nat → Bool} (s : S w) (h : WK P ops Q S B fuel listed n g w) : KK P ops Q S B fuel listed n (fr n g) w := ⟨g, rfl, s, h⟩
theorem zky (i : Nat) (k : WO P o (KK P ops Q S (Z3k B) fuel (listed.setIfInBounds i true) n) Q n f w) (hi : ops[i]? = some o := by exact rfl) (hr : Region.ready .any ops listed = [i] := by kernel_rfl) (hg : o.guard = none := by exact rfl) (hiB : Z3k B i = false := by exact rfl) : WK P ops Q S (Z3k B) (fuel + 1) listed n f w :=
 k_do i hi hr (Zc hg) hiB fun K hK => ⟨Oper.wp_mono (fun _ _ h => by obtain ⟨g, rfl, s, j⟩ := h.h; exact hK _ _ s j) k.h⟩
section
variable {p : Prop} {I : Decidable p}
theorem zid (k1 : decide p = true → p → WC P x Q n (upd f d (.bool true)) w) (k2 : decide p = false → ¬p → WC P y Q n (upd f d (.bool false)) w) (hf : f d = .bool (decide p) := by exact rfl) (ht : ev n (upd f d (.bool true)) (.tmp d) = .bool true := by exact rfl) (he : ev n (upd f d (.bool false)) (.tmp d) = .bool false := by exact rfl) : WC P (Code.cond (.tmp d) x y) Q n f w :=
 (ZY (decide p)).elim (fun h => Z48 _ h (k1 h (of_decide_eq_true h)) hf ht) fun h => Z3L _ h (k2 h (of_decide_eq_false h)) hf he
theorem zil (d : Nat) (k1 : decide p = true → p → WL P ops Q (o :: rest) n (upd f d (.bool true)) w) (k2 : decide p = false → ¬p → WL P ops Q (o :: rest) n (upd f d (.bool false)) w) (hf : f d = .bool (decide p) := by exact rfl) : WL P ops Q (o :: rest) n f w :=
 (ZY (decide p)).elim (fun h => Z1Q d _ (hf.trans (congrArg Value.bool h)) (k1 h (of_decide_eq_true h))) fun h => Z1Q d _ (hf.trans (congrArg Value.bool h)) (k2 h (of_decide_eq_false h))
theorem zih (d : Nat) (k1 : decide p = true → p → WH P ops Q S fuel listed n (upd f d (.bool true)) w) (k2 : decide p = false → ¬p → WH P ops Q S fuel listed n (upd f d (.bool false)) w) (hf : f d = .bool (decide p) := by exact rfl) : WH P ops Q S fuel listed n f w :=
 (ZY (decide p)).elim (fun h => Z3K d _ (hf.trans (congrArg Value.bool h)) (k1 h (of_decide_eq_true h))) fun h => Z3K d _ (hf.trans (congrArg Value.bool h)) (k2 h (of_decide_eq_false h))
theorem ziq (d : Nat) (k1 : decide p = true → p → WQ P ops C A (o :: rest) n (upd f d (.bool true))) (k2 : decide p = false → ¬p → WQ P ops C A (o :: rest) n (upd f d (.bool false))) (hf : f d = .bool (decide p) := by exact rfl) : WQ P ops C A (o :: rest) n f :=
 (ZY (decide p)).elim (fun h => Z09 d _ (hf.trans (congrArg Value.bool h)) (k1 h (of_decide_eq_true h))) fun h => Z09 d _ (hf.trans (congrArg Value.bool h)) (k2 h (of_decide_eq_false h))
end
end
structure Signed where
 p : Int
 s : List UInt8
 deriving DecidableEq
def Z0c (x : Signed) : Value := .agg #[i6 x.p, Z5l x.s]
theorem Zc1 (w : World) (x y : Signed) : (Op.equal 176 (Z0c x) (Z0c y)).run Tryz.prog w = .ok (decide (x = y)) w := by
 simp only [Op.equal, Op.maxDepth, Z0c, Z5l]
 simp [go_sem]
 obtain ⟨x1, x2⟩ := x
 obtain ⟨y1, y2⟩ := y
 have := Zct x2 y2
 by_cases h1 : x1 = y1 <;> by_cases h2 : x2 = y2 <;> simp_all
theorem Z9a (w : World) (em : Bool) (x : Signed) : (Instr.checkKey em 10000 176 (Z0c x)).run Tryz.prog w = .ok () w := by
 have h : ∀ n, (Instr.checkKey em (n + 2) 176 (Z0c x)).run Tryz.prog w = .ok () w := fun n => by simp [Instr.checkKey, Z0c, Z5l, go_sem]
 exact h 9998
theorem Z5G : KeyTy Tryz.prog 176 Z0c := KeyTy.deep (by kernel_rfl) Z9a Zc1 (by
 intro a
 simp [Z0c, Z5l, Instr.sameBits, ZdF])
def Z0o (l : List Signed) : List (Signed × Int) := l.zipIdx.map fun x => (x.1, (x.2 : Int) + 1)
def Zr (l : List Signed) (x : Signed) : Int := ((l.idxOf? x).map fun i => (i : Int) + 1).getD 0
def Zy (l : List Signed) (x : Signed) : List Signed := if x ∈ l then l else l ++ [x]
def BookAt (w : World) (b mb : Nat) (l : List Signed) : Prop := w.heap[b]? = some (.cells #[.map (some mb)] 179) ∧ b ≠ mb ∧ MapAt w mb Z0c (Value.int .i64) (Z0o l)
theorem Z7x (l : List Signed) : (Z0o l).map (·.1) = l := by
 simp [Z0o, List.map_map, Function.comp_def]
theorem Zdl (l : List Signed) (i : Nat) : (Z0o l)[i]? = (l[i]?).map fun x => (x, (i : Int) + 1) := by
 simp [Z0o, List.getElem?_map, List.getElem?_zipIdx, Function.comp_def]
theorem Z4E (l : List Signed) (x : Signed) : Zv (Z0o l) x = (l.idxOf? x).map fun i => (i : Int) + 1 := by
 rw [Z8A, Z7x]
 cases h : l.idxOf? x with
 | none => simp
 | some i =>
  obtain ⟨h1, _⟩ := List.idxOf?_eq_some_iff.1 h
  simp [Zdl, List.getElem?_eq_getElem h1]
theorem Zc9 (l : List Signed) (x : Signed) (h : x ∉ l) : Z30 (Z0o l) x ((l.length : Int) + 1) = Z0o (l ++ [x]) := by
 unfold Z30
 rw [Z7x, if_neg h]
 simp [Z0o, List.zipIdx_append]
theorem Zcp (l : List Signed) : (Z0o l).length = l.length := by simp [Z0o]
theorem BookAt.upd {w w' : World} {b mb : Nat} {l : List Signed} {D : List Nat} (h : BookAt w b mb l) (hu : Upd D w w') (h1 : b ∉ D) (h2 : mb ∉ D) : BookAt w' b mb l := ⟨hu.at h.1 h1, h.2.1, h.2.2.upd hu h2⟩
theorem BookAt.lt {w : World} {b mb : Nat} {l : List Signed} (h : BookAt w b mb l) : b < w.heap.size ∧ mb < w.heap.size := ⟨Z1v h.1, h.2.2.lt⟩
theorem BookAt.alloc {w : World} {b mb : Nat} {l : List Signed} (h : BookAt w b mb l) (o : Obj) : BookAt (w.alloc o) b mb l := h.upd ((Upd.refl [] w).alloc o) (by simp) (by simp)
theorem BookAt.drew {w : World} {b mb : Nat} {l : List Signed} (h : BookAt w b mb l) : BookAt w.drew b mb l := h.upd ((Upd.refl [] w).drew) (by simp) (by simp)
theorem BookAt.setCell {w : World} {b mb : Nat} {l : List Signed} (h : BookAt w b mb l) {p : Addr} (h1 : p.block ≠ b) (h2 : p.block ≠ mb) (u : Value) : BookAt (w.setCell p u) b mb l :=
 h.upd ((Upd.refl [p.block] w).setCell (Or.inr (by simp)) u) (by simpa using h1.symm) (by simpa using h2.symm)
theorem Z6I {l : List Signed} {x : Signed} (h : x ∉ l) : Zr l x = 0 := by
 have : l.idxOf? x = none := List.idxOf?_eq_none_iff.2 h
 simp [Zr, this]
theorem Z1M {l : List Signed} {x : Signed} (h : x ∈ l) : 1 ≤ Zr l x ∧ Zr l x ≤ l.length := by
 cases hi : l.idxOf? x with
 | none => exact absurd h (List.idxOf?_eq_none_iff.1 hi)
 | some i =>
  obtain ⟨h1, _⟩ := List.idxOf?_eq_some_iff.1 hi
  simp [Zr, hi]; omega
def Z0B (l : List Signed) (p mk : Int) (s : List UInt8) : Bool := decide (0 < Zr l ⟨p, s⟩ ∧ Zr l ⟨p, s⟩ = mk)
theorem Z2d (l : List Signed) (x : Signed) : x ∈ Zy l x := by unfold Zy; split <;> simp_all
theorem Z3o {l : List Signed} {x : Signed} (h : x ∈ l) : Zy l x = l := if_pos h
theorem ZcI {l : List Signed} {x y : Signed} (h : y ∈ l) : y ∈ Zy l x := by unfold Zy; split <;> simp_all
theorem Z2g (l : List Signed) (x : Signed) : (Zy l x).length ≤ l.length + 1 := by unfold Zy; split <;> simp
theorem Z7l {l : List Signed} {y : Signed} (h : y ∈ l) (m : List Signed) : Zr (l ++ m) y = Zr l y := by
 have : (l ++ m).idxOf? y = l.idxOf? y := by
  cases hi : l.idxOf? y with
  | none => exact absurd h (List.idxOf?_eq_none_iff.1 hi)
  | some i =>
   obtain ⟨h1, h2, h3⟩ := List.idxOf?_eq_some_iff.1 hi
   rw [List.idxOf?_eq_some_iff]
   refine ⟨by simp; omega, by rw [List.getElem_append_left h1]; exact h2, fun j hj => ?_⟩
   rw [List.getElem_append_left (by omega)]
   exact h3 j hj
 simp [Zr, this]
theorem Z8M {l : List Signed} {x y : Signed} (h : y ∈ l) : Zr (Zy l x) y = Zr l y := by
 unfold Zy; split
 ·rfl
 ·exact Z7l h _
section
variable {P : Program} {n : Nat} {f : Nat → Value} {w : World} {dst : Option Tmp} {ty : TypeId} {pos : String} {aft : Array Edge} {gd : Option (Nat × Bool)}
theorem Z2G {S D e : TypeId} {x : Operand} {v : Value} {s : List UInt8} (hs : P.underlying S = some (.slice e)) (he : P.underlying e = some (.int .u8)) (hd : P.underlying D = some .string) (hx : ev n f x = v) (hb : BytesAt w v s) :
  (execOp (ev n f) ⟨dst, .convert S D x, ty, pos, aft, gd⟩).run P w = .ok (.value (Z5l s)) w := by
 simp [execOp, hx, Z5W hb hs he hd, Result.andThen]
theorem Zbu {T U : TypeId} {x y : Operand} (a b : List UInt8) (hx : ev n f x = Z5l a) (hy : ev n f y = Z5l b) :
  (execOp (ev n f) ⟨dst, .binOp .eql T x y U, ty, pos, aft, gd⟩).run P w = .ok (.value (.bool (decide (a = b)))) w := by
 have : Op.stringOp .eql ⟨a.toArray⟩ ⟨b.toArray⟩ = pure (.bool (decide (a = b))) := by
  simp only [Op.stringOp, ByteArray.toList_mk]
  congr 2
  rw [Bool.eq_iff_iff]; simp
 simp [execOp, hx, hy, Z5l, binOp, eqGuard, this]
end
section
variable {P : Program} {n : Nat} {f : Nat → Value} {w w' : World} {dst : Option Tmp} {ty : TypeId} {pos : String} {aft : Array Edge} {gd : Option (Nat × Bool)} {w0 : World} {G : List Ck} {K : Act → World → Prop} {Q : Exit → Act → World → Prop}
theorem Z7v (cs : LV) (o : Nat) (vs : LV) (h : o + vs.length ≤ cs.length) : (Z1m cs o vs).length = cs.length := by
 simp only [Z1m, List.length_append, List.length_take, List.length_drop]; omega
theorem Z9I (cs : LV) (o : Nat) (vs : LV) (m : Nat) (h : o + vs.length ≤ m) (hm : m ≤ cs.length) : (Z1m cs o vs).take m = Z1m (cs.take m) o vs := by
 unfold Z1m
 rw [List.take_append, List.take_of_length_le (by rw [List.length_append, List.length_take]; omega), List.take_take, Nat.min_eq_left (by omega), List.length_append, List.length_take, Nat.min_eq_left (by omega), List.drop_take]
theorem ZcN {e size k c g o : Nat} {v : Value} {xs vs : List Value} (h : (Zo e size v k xs).ok w) (hv : v = .slice (some ⟨g, 0, none⟩) k c) {T : TypeId} {x y : Operand} {u : Value} (hx : ev n f x = .pointer (some ⟨g, o, none⟩)) (hy : ev n f y = u) (hu : u.cells = ⟨vs⟩) (hN : P.cellsOf T = vs.length) (h0 : 0 < vs.length) (ho : o + vs.length ≤ xs.length) (h1 : vs.all (·.oneCell') = true) :
  ∃ w', (execOp (ev n f) ⟨dst, .store T x y, ty, pos, aft, gd⟩).run P w = .ok .skip w' ∧ (Zo e size v k (Z1m xs o vs)).ok w' ∧ Ext w w' ∧ ∀ b, b ≠ g → w'.heap[b]? = w.heap[b]? := by
 obtain ⟨hl, h⟩ := h
 rcases h with ⟨h2, _⟩ | ⟨g', cap, cur, h2, hb, hg, hc, hm, hcs, ht⟩
 ·rw [hv] at h2; cases h2
 rw [hv] at h2
 obtain ⟨rfl, rfl⟩ : g = g' ∧ c = cap := by simpa using h2
 have hxl : xs.length ≤ cur.toList.length := by rw [← ht, List.length_take]; exact Nat.min_le_right ..
 obtain ⟨w', hr, hb', he, hk⟩ := Z7Z (P := P) (dst := dst) (ty := ty) (pos := pos) (aft := aft) (gd := gd) (cs := cur.toList) hx hy hu hN h0 (by simpa using hg) (by omega) (fun v hv => List.all_eq_true.1 h1 v hv)
 refine ⟨w', hr, ⟨by rw [Z7v _ _ _ ho]; exact hl, .inr ⟨g, c, _, hv, hb, hb', hc, hm, ?_, ?_⟩⟩, he, hk⟩
 ·show (Z1m cur.toList o vs).length = _
  rw [Z7v _ _ _ (by omega)]; simpa using hcs
 ·show (Z1m cur.toList o vs).take (k * size) = _
  rw [Z9I _ _ _ _ (by omega) (by rw [← hl]; exact hxl), ht]
theorem Z7y {e size k c g o : Nat} {v : Value} {xs vs : List Value} {T : TypeId} {x y : Operand} {u : Value} (hd : dst = none) (H : Sat w0 G w) (i : Nat) (hi : G[i]? = some (Zo e size v k xs)) (hv : v = .slice (some ⟨g, 0, none⟩) k c) (hx : ev n f x = .pointer (some ⟨g, o, none⟩)) (hy : ev n f y = u) (hu : u.cells = ⟨vs⟩) (hN : P.cellsOf T = vs.length) (h0 : 0 < vs.length) (ho : o + vs.length ≤ xs.length) (h1 : vs.all (·.oneCell') = true)
  {xs' : List Value} (hxs : Z1m xs o vs = xs') (k' : ∀ w', Sat w0 (G.set i (Zo e size v k xs')) w' → K (fr n f) w') : WO P ⟨dst, .store T x y, ty, pos, aft, gd⟩ K Q n f w := by
 obtain ⟨w', hr, hok, he, hk⟩ := ZcN (P := P) (dst := dst) (ty := ty) (pos := pos) (aft := aft) (gd := gd) (H.at i hi) hv hx hy hu hN h0 ho h1
 subst hxs
 refine Z8G hd hr (k' w' (H.set i hi he (fun b _ hb => hk b fun e => hb ?_) hok fun b hb => .inl hb))
 show v.ownBlock = some b
 rw [hv, e]; rfl
end
theorem Zaz {α : Type} (enc : α → List Value) (size : Nat) (hs : ∀ x, (enc x).length = size) : ∀ (L : List α) (i : Nat) (x : α), i < L.length → Z1m (L.flatMap enc) (i * size) (enc x) = (L.set i x).flatMap enc
 | [], i, x, h => by simp at h
 | y :: L, 0, x, _ => by
  simp only [List.flatMap_cons, Nat.zero_mul, Z1m, List.take_zero, List.nil_append, Nat.zero_add, List.set_cons_zero]
  rw [hs, List.drop_append, List.drop_of_length_le (by rw [hs]; exact Nat.le_refl _), hs]
  simp
 | y :: L, i + 1, x, h => by
  have ih := Zaz enc size hs L i x (by simpa using h)
  simp only [List.flatMap_cons, List.set_cons_succ, ← ih, Z1m]
  have e : (i + 1) * size = (enc y).length + i * size := by rw [hs, Nat.succ_mul, Nat.add_comm]
  rw [e, List.take_append, List.take_of_length_le (by omega), Nat.add_sub_cancel_left, List.drop_append, List.drop_of_length_le (by omega), List.nil_append, List.append_assoc, List.append_assoc, List.append_assoc]
  rw [show (enc y).length + i * size + (enc x).length - (enc y).length = i * size + (enc x).length by omega]
end Go.Proofs.YtenihpghfdcpkaaGreat
