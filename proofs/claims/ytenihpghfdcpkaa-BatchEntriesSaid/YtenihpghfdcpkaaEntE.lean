/- WHAT IS PROVED: when names and entries are the same, as '==' says. Conditions: stated with each. -/
import Derived.Test.YtenihpghfdcpkaaLists
import Derived.Test.YtenihpghfdcpkaaEntM
import Derived.Laws.IdiomStrings
import Derived.Test.YtenihpghfdcpkaaHash
import Derived.ChangeKeysEq
namespace Go.Proofs.Ytenihpghfdcpkaa
open Go.RowKit
def strH (h : Hash) : Value := .string ⟨h.l.toArray⟩
theorem bytesLess_iff : ∀ (a b : List UInt8), a.length = b.length → (Op.bytesLess a b = true ↔ ∃ i, i < a.length ∧ a.getD i 0 < b.getD i 0 ∧ ∀ j, j < i → a.getD j 0 = b.getD j 0)
  | [], [], _ => by simp [Op.bytesLess]
  | x :: a, y :: b, h => by
    have ih := bytesLess_iff a b (by simpa using h)
    simp only [Op.bytesLess, Bool.or_eq_true, Bool.and_eq_true, decide_eq_true_eq, beq_iff_eq, ih]
    constructor
    · rintro (h1 | ⟨rfl, i, h2, h3, h4⟩)
      · exact ⟨0, by simp, by simpa using h1, fun j hj => by omega⟩
      · refine ⟨i + 1, by simp; omega, by simpa using h3, fun j hj => ?_⟩
        cases j with
        | zero => rfl
        | succ j => simpa using h4 j (by omega)
    · rintro ⟨i, h2, h3, h4⟩
      cases i with
      | zero => exact .inl (by simpa using h3)
      | succ i => exact .inr ⟨by simpa using h4 0 (by omega), i, by simpa using h2, by simpa using h3, fun j hj => by simpa using h4 (j + 1) (by omega)⟩
theorem bytesLess_hash (a b : Hash) : Op.bytesLess a.l b.l = lessB a b := by
  have h1 := bytesLess_iff a.l b.l (by rw [a.len, b.len])
  have h2 := lessB_iff a b
  rw [a.len] at h1
  have h3 : Op.bytesLess a.l b.l = true ↔ lessB a b = true := h1.trans h2.symm
  cases hx : Op.bytesLess a.l b.l <;> cases hy : lessB a b <;> simp_all
section
variable {P : Program} {n : Nat} {f : Nat → Value} {w : World} {dst : Option Tmp} {ty : TypeId} {pos : String} {aft : Array Edge} {gd : Option (Nat × Bool)}
theorem e_convHash {S D e : TypeId} {x : Operand} {a : Addr} {c : Nat} (h : Hash) (hs : P.underlying S = some (.slice e)) (he : P.underlying e = some (.int .u8)) (hd : P.underlying D = some .string) (hx : ev n f x = .slice (some a) 32 c) (hr : RunAt w a (hc h)) :
    (execOp (ev n f) ⟨dst, .convert S D x, ty, pos, aft, gd⟩).run P w = .ok (.value (strH h)) w := by
  have := run_convert_bytes_back (P := P) w S D e a c h.l hs he hd (fun j hj => hr j _ (by rw [hc_eq, List.getElem?_map, List.getElem?_eq_getElem hj]; rfl))
  rw [h.len] at this
  simp [execOp, hx, this, Result.andThen, strH]
theorem e_lssStr {T U : TypeId} {x y : Operand} (a b : Hash) (hx : ev n f x = strH a) (hy : ev n f y = strH b) :
    (execOp (ev n f) ⟨dst, .binOp .lss T x y U, ty, pos, aft, gd⟩).run P w = .ok (.value (.bool (lessB a b))) w := by
  have hl : ∀ h : Hash, (⟨h.l.toArray⟩ : ByteArray).toList = h.l := fun h => by simp
  have : Op.stringOp .lss ⟨a.l.toArray⟩ ⟨b.l.toArray⟩ = pure (.bool (lessB a b)) := by
    simp only [Op.stringOp, hl, bytesLess_hash]
  simp [execOp, hx, hy, strH, binOp, eqGuard, this]
end
theorem cell_run {w : World} {b T o : Nat} {cs us : List Value} (h : (cellC b T cs).ok w) (hu : (cs.drop o).take us.length = us) : RunAt w ⟨b, o, none⟩ us := by
  intro j v hj
  rw [Addr.add_lit, cell_of_heap h]
  rw [← hu, List.getElem?_take] at hj
  split at hj
  · rw [List.getElem?_drop] at hj; simpa using hj
  · cases hj
end Go.Proofs.Ytenihpghfdcpkaa
namespace Go.Proofs.Ytenihpghfdcpkaa
open Go.RowKit
section
variable {P : Program} {t : TypeId} {X : Type} [DecidableEq X]
/-- a kind of things of which '==' says whether they are the same -/
structure Flat (P : Program) (t : TypeId) (enc : X → List Value) : Prop where
  eq : ∀ (w : World) (x y : X), (Op.equalIn 10000 t (.agg ⟨enc x⟩) (.agg ⟨enc y⟩)).run P w = .ok (decide (x = y)) w
  held : P.eqGuardType P.depth t = false
variable {enc : X → List Value}
theorem Flat.e_eq (F : Flat P t enc) {n : Nat} {f : Nat → Value} {w : World} {dst : Option Tmp} {ty : TypeId} {pos : String} {aft : Array Edge} {gd : Option (Nat × Bool)} {x y : Operand} {T : TypeId} (a b : X) (hx : ev n f x = .agg ⟨enc a⟩) (hy : ev n f y = .agg ⟨enc b⟩) :
    (execOp (ev n f) ⟨dst, .binOp .eql t x y T, ty, pos, aft, gd⟩).run P w = .ok (.value (.bool (decide (a = b)))) w := by
  have h : (Op.equalIn 10000 t (.agg ⟨enc a⟩) (.agg ⟨enc b⟩)).run P w = .ok (decide (a = b)) w := F.eq w a b
  simp only [execOp, hx, hy]
  simp only [Sem.run_bind, run_eqGuard_agg w _ _ _ _ _ _ F.held, Result.andThen_ok, run_eql_struct, h, Sem.run_pure]
theorem Flat.e_ne (F : Flat P t enc) {n : Nat} {f : Nat → Value} {w : World} {dst : Option Tmp} {ty : TypeId} {pos : String} {aft : Array Edge} {gd : Option (Nat × Bool)} {x y : Operand} {T : TypeId} (a b : X) (hx : ev n f x = .agg ⟨enc a⟩) (hy : ev n f y = .agg ⟨enc b⟩) :
    (execOp (ev n f) ⟨dst, .binOp .neq t x y T, ty, pos, aft, gd⟩).run P w = .ok (.value (.bool (!decide (a = b)))) w := by
  have h : (Op.equalIn 10000 t (.agg ⟨enc a⟩) (.agg ⟨enc b⟩)).run P w = .ok (decide (a = b)) w := F.eq w a b
  simp only [execOp, hx, hy]
  simp only [Sem.run_bind, run_eqGuard_agg w _ _ _ _ _ _ F.held, Result.andThen_ok, run_neq_struct, h, Sem.run_pure]
theorem Flat.keyTy (F : Flat P t enc) (hw : (match P.underlying t with | some (.array _ _) | some (.struct _) => true | _ => false) = true) (hc : ∀ (w : World) (em : Bool) (a : X), (Instr.checkKey em 10000 t (.agg ⟨enc a⟩)).run P w = .ok () w) (hs : ∀ a : X, Instr.sameBits 10000 (.agg ⟨enc a⟩) (.agg ⟨enc a⟩) = true) : KeyTy P t (fun a => .agg ⟨enc a⟩) :=
  KeyTy.deep hw hc (fun w a b => F.eq w a b) hs
end
/-- '==' on arrays, item by item -/
def ItemsEq (P : Program) (w : World) (d : Nat) (e : TypeId) (k : Nat) (X Y : Array Value) : List Nat → List Bool → Prop
  | [], [] => True
  | j :: js, r :: rs => (∃ a b, (part e X (j * k)).run P w = .ok a w ∧ (part e Y (j * k)).run P w = .ok b w ∧ (Op.equalIn d e a b).run P w = .ok r w) ∧ ItemsEq P w d e k X Y js rs
  | _, _ => False
theorem eqItems_all {P : Program} {w : World} {d : Nat} {e : TypeId} {k : Nat} {X Y : Array Value} : ∀ (js : List Nat) (rs : List Bool), ItemsEq P w d e k X Y js rs → (Op.eqItems d e k X Y js).run P w = .ok (rs.all id) w
  | [], [], _ => by simp [Op.eqItems]
  | j :: js, r :: rs, h => by
    obtain ⟨⟨a, b, ha, hb, hr⟩, h2⟩ := h
    have ih := eqItems_all js rs h2
    simp only [Op.eqItems, Sem.run_bind, ha, hb, hr, Result.andThen_ok]
    cases r
    · simp
    · simp [ih]
  | [], _ :: _, h => h.elim
  | _ :: _, [], h => h.elim
theorem array_equalIn {P : Program} {w : World} {t e : TypeId} {n : Nat} {i : TypeInfo} {X Y : Array Value} (hu : P.underlying t = some (.array n e)) (hi : P.info? e = some i) {r : Bool} (h : (Op.eqItems 9999 e (P.cellsOf e) X Y (List.range n)).run P w = .ok r w) :
    (Op.equalIn 10000 t (.agg X) (.agg Y)).run P w = .ok r w := (run_equalIn_array (w := w) 9999 X Y hu hi).trans h
end Go.Proofs.Ytenihpghfdcpkaa
namespace Go.Proofs.Ytenihpghfdcpkaa
open Go.RowKit
set_option maxRecDepth 100000
instance : DecidableEq EntD := fun a b =>
  if h : a.cl = b.cl ∧ a.sq = b.sq ∧ a.h = b.h ∧ a.t = b.t then .isTrue (by cases a; cases b; simp_all) else .isFalse (fun e => h (by rw [e]; simp))
theorem zeroEn (w : World) : (zeroValue 50).run Try.prog w = .ok (entV ent0) w := by kernel_rfl
def pairV (a b : Int) : Value := .agg ⟨[.int .i64 a, .int .i64 b]⟩
theorem name_equalIn (w : World) (a b c d : Int) : (Op.equalIn 9999 35 (pairV a b) (pairV c d)).run Try.prog w = .ok (decide (a = c ∧ b = d)) w := by
  have ei := fun a b => run_equalIn_int (P := Try.prog) w 9997 3 .i64 .i64 a b Try.underlying3
  refine (struct_equalIn (d := 9998) _ [a == c, b == d] Try.underlying35 (by kernel_rfl)
    ⟨⟨by decide, .int .i64 a, .int .i64 c, by kernel_rfl, by kernel_rfl, ei _ _⟩, ⟨by decide, .int .i64 b, .int .i64 d, by kernel_rfl, by kernel_rfl, ei _ _⟩, trivial⟩).trans ?_
  congr 1
  rw [Bool.eq_iff_iff]
  simp
theorem entF_i (w : World) (s : EntD) : (part 35 ⟨encEn s⟩ 0).run Try.prog w = .ok (pairV s.cl s.sq) w ∧ (part 37 ⟨encEn s⟩ 2).run Try.prog w = .ok (hashV s.h) w ∧ (part 22 ⟨encEn s⟩ 34).run Try.prog w = .ok (.int .u64 s.t) w :=
  ⟨by kernel_rfl, by kernel_rfl, by kernel_rfl⟩
theorem entF : Flat Try.prog 50 encEn := by
  refine ⟨fun w x y => ?_, by kernel_rfl⟩
  obtain ⟨x1, x2, x3⟩ := entF_i w x
  obtain ⟨y1, y2, y3⟩ := entF_i w y
  have eu := fun a b => run_equalIn_int (P := Try.prog) w 9998 22 .u64 .u64 a b Try.underlying22
  refine (struct_equalIn (d := 9999) _ [decide (x.cl = y.cl ∧ x.sq = y.sq), decide (x.h = y.h), x.t == y.t] Try.underlying50 (by kernel_rfl)
    ⟨⟨by decide, _, _, x1, y1, name_equalIn w _ _ _ _⟩, ⟨by decide, _, _, x2, y2, hash_equalIn w 9997 _ _⟩, ⟨by decide, _, _, x3, y3, eu _ _⟩, trivial⟩).trans ?_
  congr 1
  obtain ⟨a1, a2, a3, a4⟩ := x
  obtain ⟨b1, b2, b3, b4⟩ := y
  rw [Bool.eq_iff_iff]
  simp [and_assoc]
theorem same_int2 (a b : Int) : Instr.sameBits 10000 (.agg ⟨[.int .i64 a, .int .i64 b]⟩) (.agg ⟨[.int .i64 a, .int .i64 b]⟩) = true := by simp [Instr.sameBits]
theorem nmK : KeyTy Try.prog 35 nmV := KeyTy.deep (by kernel_rfl) (fun w em a => by cases em <;> kernel_rfl) (fun w x y => by
  simp only [Op.equal, Op.maxDepth, nmV, encNm]
  simp [go_sem]
  obtain ⟨x1, x2⟩ := x
  obtain ⟨y1, y2⟩ := y
  by_cases h1 : x1 = y1 <;> by_cases h2 : x2 = y2 <;> simp_all) (fun a => same_int2 _ _)
theorem e_eqName {n : Nat} {f : Nat → Value} {w : World} {dst : Option Tmp} {ty : TypeId} {pos : String} {aft : Array Edge} {gd : Option (Nat × Bool)} {x y : Operand} {T : TypeId} (a b c d : Int) (hx : ev n f x = .agg ⟨[.int .i64 a, .int .i64 b]⟩) (hy : ev n f y = .agg ⟨[.int .i64 c, .int .i64 d]⟩) :
    (execOp (ev n f) ⟨dst, .binOp .eql 35 x y T, ty, pos, aft, gd⟩).run Try.prog w = .ok (.value (.bool (decide (a = c ∧ b = d)))) w := by
  simp only [execOp, hx, hy]
  simp [go_sem]
  by_cases h1 : a = c <;> by_cases h2 : b = d <;> simp_all
end Go.Proofs.Ytenihpghfdcpkaa
