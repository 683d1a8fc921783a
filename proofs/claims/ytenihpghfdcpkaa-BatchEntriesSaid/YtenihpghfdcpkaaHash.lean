/- WHAT IS PROVED: hashes (arrays of 32 bytes) as data, and what '==' says of them. Conditions: stated with each. -/
import Derived.Test.YtenihpghfdcpkaaSat
import Derived.Stop.BytesEq
namespace Go.Proofs.Ytenihpghfdcpkaa
open Go.RowKit

structure Hash where
  l : List UInt8
  len : l.length = 32
  deriving DecidableEq
/-- its cells, written out -/
def hc (h : Hash) : List Value := (List.range 32).map fun i => byteV (h.l.getD i 0)
theorem hc_eq (h : Hash) : hc h = h.l.map byteV := by
  unfold hc
  refine List.ext_getElem (by simp [h.len]) fun i h1 h2 => ?_
  simp only [List.length_map] at h2
  simp [List.getD, List.getElem?_eq_getElem h2]
@[simp] theorem hc_len (h : Hash) : (hc h).length = 32 := by simp [hc]
def hashV (h : Hash) : Value := .agg ⟨hc h⟩
def hash0 : Hash := ⟨List.replicate 32 0, by simp⟩
/-- a hash of which the first byte alone is told -/
def hash1 (x : UInt8) : Hash := ⟨x :: List.replicate 31 0, by simp⟩
/-- its first byte turned -/
def Hash.bump (a : Hash) : Hash := ⟨(List.range 32).map fun i => if i = 0 then a.l.getD 0 0 + 1 else a.l.getD i 0, by simp⟩
theorem Hash.bump_ne (a : Hash) : a.bump ≠ a := by
  intro h
  have h1 : a.bump.l.getD 0 0 = a.l.getD 0 0 := by rw [h]
  have h2 : a.bump.l.getD 0 0 = a.l.getD 0 0 + 1 := rfl
  rw [h2] at h1
  have h3 := congrArg UInt8.toNat h1
  simp at h3
  omega
theorem u8_bump (x : UInt8) : IntKind.u8.wrap ((x.toNat : Int) + 1) = ((x + 1).toNat : Int) := by
  simp [IntKind.wrap, IntKind.signed, IntKind.bits, UInt8.toNat_add]
theorem e_remU8 {P : Program} {n : Nat} {f : Nat → Value} {w : World} {o : Oper} (x m : UInt8) (hr : (execOp (ev n f) o).run P w = (Op.intDiv .rem .u8 (x.toNat : Int) (m.toNat : Int) >>= fun v => pure (Next.value v)).run P w) (hm : 0 < m.toNat) :
    (execOp (ev n f) o).run P w = .ok (.value (.int .u8 ((x % m).toNat : Int))) w := by
  rw [hr]
  have : ¬ m.toNat = 0 := by omega
  simp [Op.intDiv, this, Int.tmod_eq_emod_of_nonneg, UInt8.toNat_mod]
theorem hc_inj {a b : Hash} (h : hc a = hc b) : a = b := by
  rw [hc_eq, hc_eq] at h
  obtain ⟨a, ha⟩ := a
  obtain ⟨b, hb⟩ := b
  have : a = b := by
    refine List.ext_getElem (by rw [ha, hb]) fun i h1 h2 => ?_
    have := congrArg (fun l => l[i]?) h
    simp [List.getElem?_map, List.getElem?_eq_getElem h1, List.getElem?_eq_getElem h2, byteV] at this
    exact UInt8.toNat_inj.1 (by omega)
  subst this; rfl
set_option maxRecDepth 100000 in
theorem hash_equalIn (w : World) (d : Nat) (a b : Hash) : (Op.equalIn (d + 2) 37 (hashV a) (hashV b)).run Try.prog w = .ok (decide (a = b)) w := by
  have := run_equalIn_bytes (P := Try.prog) w d 37 5 32 (by kernel_rfl) (by kernel_rfl) (fun w => by kernel_rfl) a.l b.l a.len b.len
  unfold hashV
  rw [hc_eq, hc_eq]
  refine Eq.trans this ?_
  congr 1
  rw [Bool.eq_iff_iff]
  simp only [beq_iff_eq, decide_eq_true_eq]
  obtain ⟨a, ha⟩ := a
  obtain ⟨b, hb⟩ := b
  simp
theorem hash_eq (w : World) (a b : Hash) : (Op.equal 37 (hashV a) (hashV b)).run Try.prog w = .ok (decide (a = b)) w := hash_equalIn w 9998 a b
set_option maxRecDepth 100000 in
theorem e_eqHash {n : Nat} {f : Nat → Value} {w : World} {dst : Option Tmp} {ty : TypeId} {pos : String} {aft : Array Edge} {gd : Option (Nat × Bool)} {x y : Operand} {T : TypeId} (a b : Hash) (hx : ev n f x = .agg ⟨hc a⟩) (hy : ev n f y = .agg ⟨hc b⟩) :
    (execOp (ev n f) ⟨dst, .binOp .eql 37 x y T, ty, pos, aft, gd⟩).run Try.prog w = .ok (.value (.bool (decide (a = b)))) w := by
  have h := hash_equalIn w 9998 a b
  unfold hashV at h
  simp only [execOp, hx, hy]
  simp only [Sem.run_bind, run_eqGuard_agg w _ _ _ _ _ _ (show Try.prog.eqGuardType Try.prog.depth 37 = false by kernel_rfl), Result.andThen_ok, run_eql_struct, h, Sem.run_pure]
set_option maxRecDepth 100000 in
theorem e_neHash {n : Nat} {f : Nat → Value} {w : World} {dst : Option Tmp} {ty : TypeId} {pos : String} {aft : Array Edge} {gd : Option (Nat × Bool)} {x y : Operand} {T : TypeId} (a b : Hash) (hx : ev n f x = .agg ⟨hc a⟩) (hy : ev n f y = .agg ⟨hc b⟩) :
    (execOp (ev n f) ⟨dst, .binOp .neq 37 x y T, ty, pos, aft, gd⟩).run Try.prog w = .ok (.value (.bool (!decide (a = b)))) w := by
  have h := hash_equalIn w 9998 a b
  unfold hashV at h
  simp only [execOp, hx, hy]
  simp only [Sem.run_bind, run_eqGuard_agg w _ _ _ _ _ _ (show Try.prog.eqGuardType Try.prog.depth 37 = false by kernel_rfl), Result.andThen_ok, run_neq_struct, h, Sem.run_pure]
/-- '==' on structs, field by field -/
def FieldsEq (P : Program) (w : World) (d : Nat) (X Y : Array Value) : List Field → List Bool → Prop
  | [], [] => True
  | f :: fs, r :: rs => (f.name ≠ "_" ∧ ∃ a b, (part f.type X f.offset).run P w = .ok a w ∧ (part f.type Y f.offset).run P w = .ok b w ∧ (Op.equalIn d f.type a b).run P w = .ok r w) ∧ FieldsEq P w d X Y fs rs
  | _, _ => False
theorem eqFields_all {P : Program} {w : World} {d : Nat} {X Y : Array Value} : ∀ (fs : List Field) (rs : List Bool), FieldsEq P w d X Y fs rs → (Op.eqFields d X Y fs).run P w = .ok (rs.all id) w
  | [], [], _ => by simp [Op.eqFields]
  | f :: fs, r :: rs, h => by
    obtain ⟨⟨hn, a, b, ha, hb, hr⟩, h2⟩ := h
    have ih := eqFields_all fs rs h2
    simp only [Op.eqFields, hn, ne_eq, not_false_eq_true, if_true, Sem.run_bind, ha, hb, hr, Result.andThen_ok]
    cases r
    · simp
    · simp [ih]
  | [], _ :: _, h => h.elim
  | _ :: _, [], h => h.elim
theorem struct_equalIn {P : Program} {w : World} {d : Nat} {X Y : Array Value} {t : TypeId} (fs : List Field) (rs : List Bool) (ht : P.underlying t = some (.struct ⟨fs⟩)) (hp : P.stoodInHeld t = false) (h : FieldsEq P w d X Y fs rs) :
    (Op.equalIn (d + 1) t (.agg X) (.agg Y)).run P w = .ok (rs.all id) w := by
  have hf : P.fieldsOf t = ⟨fs⟩ := by simp [Program.fieldsOf, ht]
  rw [run_equalIn_struct w d t X Y (by rw [hf]; exact ht) hp, hf]
  exact eqFields_all fs rs h
/-- cells that '==' and the maps read as they stand -/
theorem same_ints (l : List Value) (h : ∀ v ∈ l, ∃ k z, v = .int k z) : Instr.sameBits 10000 (.agg ⟨l⟩) (.agg ⟨l⟩) = true := by
  simp only [Instr.sameBits, beq_self_eq_true, Bool.true_and, List.all_eq_true]
  rintro ⟨x, y⟩ hxy
  have : x = y ∧ x ∈ l := by
    rw [List.mem_iff_getElem] at hxy
    obtain ⟨i, hi, he⟩ := hxy
    simp only [List.getElem_zip, Prod.mk.injEq] at he
    obtain ⟨rfl, rfl⟩ := he
    exact ⟨rfl, List.getElem_mem _⟩
  obtain ⟨rfl, hm⟩ := this
  obtain ⟨k, z, rfl⟩ := h _ hm
  simp [Instr.sameBits]
theorem hc_ints (h : Hash) : ∀ v ∈ hc h, ∃ k z, v = Value.int k z := fun v hv => by
  simp only [hc, List.mem_map] at hv
  obtain ⟨i, _, rfl⟩ := hv
  exact ⟨_, _, rfl⟩
end Go.Proofs.Ytenihpghfdcpkaa
