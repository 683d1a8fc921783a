/- WHAT IS PROVED: what cores say, as data; cores as a family in memory. Conditions: stated with each. -/
import Derived.Test.YthjmbhneifjeeaaFam
import Derived.Test.YthjmbhneifjeeaaCore4
import Derived.Test.YthjmbhneifjeeaaCoreRun
namespace Go.Proofs.Ythjmbhneifjeeaa
open Go.RowKit
theorem calls_conv {P : Program} {f : FuncId} {a : Array Value} {w : World} {v v' : Value} (h : Calls P f a w fun e w' => e = .returned v ∧ Upd [] w w') (hv : v = v') : Calls P f a w fun e w' => e = .returned v' ∧ Upd [] w w' := hv ▸ h
structure SaidD where
  vote : Bool
  kind : Int
  round : Int
  valid : Int
  from' : Int
  h : Hash
def encS (s : SaidD) : List Value := [.bool s.vote, .int .i64 s.kind, .int .i64 s.round, .int .i64 s.valid, .int .i64 s.from'] ++ hc s.h
theorem encS_len (s : SaidD) : (encS s).length = 37 := by simp [encS]
theorem encS_one (s : SaidD) : (encS s).all (·.oneCell') = true := by
  simp only [encS, List.all_append, hc_eq]
  simp [Value.oneCell', byteV]
def hash2 (a b : Int) : Hash := ⟨UInt8.ofNat (a % 256).toNat :: UInt8.ofNat (b % 256).toNat :: List.replicate 30 0, by simp⟩
theorem u8_mod (z : Int) : IntKind.u8.wrap z = z % 256 := by simp [IntKind.wrap, IntKind.signed, IntKind.bits]
theorem hash2_cells (a b : Int) : hc (hash2 (1 + a) b) = [.int .u8 (IntKind.u8.wrap (1 + IntKind.u8.wrap a)), .int .u8 (IntKind.u8.wrap b)] ++ List.replicate 30 (.int .u8 0) := by
  have e : ∀ z : Int, ((UInt8.ofNat (z % 256).toNat).toNat : Int) = z % 256 := fun z => by
    have h1 := Int.emod_nonneg z (show (256 : Int) ≠ 0 by decide)
    have h2 := Int.emod_lt_of_pos z (show (0 : Int) < 256 by decide)
    simp; omega
  rw [hc_eq]
  simp only [hash2, List.map_cons, List.map_replicate, byteV, e, u8_mod]
  rw [show (1 + a % 256) % 256 = (1 + a) % 256 by omega]
  rfl
def spkH (from' : Int) (a : ActD) : Hash := if a.h = hash0 then hash2 (1 + from') a.round else a.h
def spkV (a : ActD) : Int := if a.h = hash0 then -1 else a.valid
/-- what comes of an act -/
def speakA (from' : Int) (a : ActD) : List SaidD :=
  if a.kind = 1 then [⟨false, 0, a.round, spkV a, from', spkH from' a⟩] else if a.kind = 2 then [⟨true, 1, a.round, 0, from', a.h⟩] else if a.kind = 3 then [⟨true, 2, a.round, 0, from', a.h⟩] else []
theorem speakA_len (from' : Int) (A : List ActD) : (A.flatMap (speakA from')).length ≤ A.length := by
  induction A with
  | nil => simp
  | cons a A ih =>
    rw [List.flatMap_cons, List.length_append, List.length_cons]
    have : (speakA from' a).length ≤ 1 := by
      unfold speakA
      split
      · exact Nat.le_refl _
      split
      · exact Nat.le_refl _
      split
      · exact Nat.le_refl _
      · exact Nat.zero_le _
    omega
theorem flat_take {α β : Type} {f : α → List β} {A : List α} {i : Nat} {x : α} (hx : A[i]? = some x) : (A.take (i + 1)).flatMap f = (A.take i).flatMap f ++ f x := by
  rw [List.take_add_one, hx]; simp [List.flatMap_append]
/-- where a core lies -/
structure CoreB where
  k : Nat
  t : Nat
  hb : Nat
  cb : Nat
  ab : Nat
  lb : Nat
  pb : Nat
def coreK (b : CoreB) (D : CoreD) : Ck := coreC b.k b.t b.hb b.cb b.ab b.lb b.pb D
def encP (b : CoreB) : List Value := [.pointer (some ⟨b.k, 0, none⟩)]
theorem encP_len (b : CoreB) : (encP b).length = 1 := rfl
theorem encP_one (b : CoreB) : (encP b).all (·.oneCell') = true := rfl
section
variable {w0 w w' : World} {bs : List CoreB} {Ds : List CoreD} {i : Nat} {b : CoreB} {D D' : CoreD} {A : List ActD} {e : Ending} {T : TypeId}
/-- a method of one core of the family -/
theorem fam_method (hT : (famC coreK bs Ds).ok w) (hb : bs[i]? = some b) (hD : Ds[i]? = some D)
    (h : ∃ v, e = .returned v ∧ Sat w [cellC b.k 92 (coreL b.t b.pb D'), talC b.t b.hb b.cb b.ab b.lb D'.f D'.c D'.L, mapC b.pb (Value.int .i64) propV D'.P, rowC T 35 v A.length (A.flatMap encA), restC w (coreC b.k b.t b.hb b.cb b.ab b.lb b.pb D).fp] w') :
    ∃ v, e = .returned v ∧ Sat w [famC coreK bs (Ds.set i D'), rowC T 35 v A.length (A.flatMap encA), restC w (famC coreK bs Ds).fp] w' := by
  obtain ⟨v, he, hS⟩ := h
  have h1 : Sat w ([coreK b D'] ++ [rowC T 35 v A.length (A.flatMap encA)] ++ [restC w (coreK b D).fp]) w' := Sat.closeL (L := coreG b.k b.t b.hb b.cb b.ab b.lb b.pb D') (R := [rowC T 35 v A.length (A.flatMap encA), restC w (coreK b D).fp]) hS
  exact ⟨v, he, famC_turn hT hb hD h1⟩
theorem calls_fam {P : Program} {F : FuncId} {args : Array Value} (hT : (famC coreK bs Ds).ok w) (hb : bs[i]? = some b) (hD : Ds[i]? = some D)
    (h : Calls P F args w fun e w' => ∃ v, e = .returned v ∧ Sat w [cellC b.k 92 (coreL b.t b.pb D'), talC b.t b.hb b.cb b.ab b.lb D'.f D'.c D'.L, mapC b.pb (Value.int .i64) propV D'.P, rowC T 35 v A.length (A.flatMap encA), restC w (coreC b.k b.t b.hb b.cb b.ab b.lb b.pb D).fp] w') :
    Calls P F args w fun e w' => ∃ v, e = .returned v ∧ Sat w [famC coreK bs (Ds.set i D'), rowC T 35 v A.length (A.flatMap encA), restC w (famC coreK bs Ds).fp] w' := h.mono fun _ _ q => fam_method hT hb hD q
end
end Go.Proofs.Ythjmbhneifjeeaa
