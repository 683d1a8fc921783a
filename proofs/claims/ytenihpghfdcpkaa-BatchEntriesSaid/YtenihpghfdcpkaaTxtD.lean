/- WHAT IS PROVED: texts as lists of bytes in memory, and what they are made of. Conditions: stated with each. -/
import Derived.Test.YtenihpghfdcpkaaVarB
import Derived.Test.YtenihpghfdcpkaaFrameHash
import Derived.Test.YtenihpghfdcpkaaObj
import Derived.Laws.IdiomStrings
namespace Go.Proofs.Ytenihpghfdcpkaa
open Go.RowKit
def encW (v : Value) : List Value := [v]
theorem encW_len (v : Value) : (encW v).length = 1 := rfl
section
variable {w w' w0 : World} {v : Value} {s : List UInt8} {vs : List Value} {ss : List (List UInt8)} {G : List Ck}
structure Parts (w : World) (vs : List Value) (ss : List (List UInt8)) : Prop where
  len : vs.length = ss.length
  get : ∀ i, i < vs.length → ListAt encB 1 w (vs.getD i undef) (ss.getD i [])
theorem Parts.nil : Parts w [] [] := ⟨rfl, fun i h => by simp at h⟩
theorem Parts.cons (h : ListAt encB 1 w v s) (t : Parts w vs ss) : Parts w (v :: vs) (s :: ss) := ⟨by simp [t.len], fun i hi => by
  cases i with
  | zero => exact h
  | succ i => exact t.get i (by simpa using hi)⟩
theorem flat_step (ss : List (List UInt8)) {i : Nat} (h : i < ss.length) : (ss.take (i + 1)).flatten = (ss.take i).flatten ++ ss.getD i [] := by
  rw [List.take_add_one, List.getElem?_eq_getElem h, List.flatten_append, List.getD_eq_getElem?_getD, List.getElem?_eq_getElem h]
  simp
theorem flat_le (ss : List (List UInt8)) {i : Nat} (h : i < ss.length) : (ss.take i).flatten.length + (ss.getD i []).length ≤ ss.flatten.length := by
  have h1 := congrArg List.length (flat_step ss h)
  have h2 : ss.flatten = (ss.take (i + 1)).flatten ++ (ss.drop (i + 1)).flatten := by rw [← List.flatten_append, List.take_append_drop]
  rw [List.length_append] at h1
  rw [h2, List.length_append]; omega
/-- a text that lies somewhere, as a piece of the call -/
def txtC (v : Value) (s : List UInt8) : Ck where
  fp b := 0 < s.length ∧ v.ownBlock = some b
  ok w := BytesAt w v s
  stay {w w'} h hb := by
    rcases h with h | ⟨h0, b, off, cap, rfl, hn, h⟩
    · exact .inl h
    · refine .inr ⟨h0, b, off, cap, rfl, hn, fun i hi => ?_⟩
      have := h i hi
      unfold CellU8 World.cell? at this ⊢
      rw [hb b ⟨h0, rfl⟩]; exact this
  lt {w} h b hb := by
    obtain ⟨h0, hb⟩ := hb
    obtain ⟨b', off, cap, rfl, _, h⟩ := SliceOf.some h h0
    have := h 0 h0
    simp only [Value.ownBlock, Option.some.injEq] at hb
    subst hb
    unfold CellU8 World.cell? at this
    by_cases hl : b' < w.heap.size
    · exact hl
    · rw [Array.getElem?_eq_none (show w.heap.size ≤ b' by omega)] at this; simp at this
theorem ListAt.ofTxt (h : (txtC v s).ok w) : ListAt encB 1 w v s := bytes_list h
theorem ListAt.ofHash {x : Hash} {b o c : Nat} (h : RunAt w ⟨b, o, none⟩ (hc x)) (hc' : 32 ≤ c ∧ c ≤ maxLen) : ListAt encB 1 w (.slice (some ⟨b, o, none⟩) 32 c) x.l := by
  refine bytes_list (.inr ⟨by rw [x.len]; decide, b, o, c, by rw [x.len], by rw [x.len]; exact hc', fun i hi => ?_⟩)
  have := h i (byteV x.l[i]) (by rw [hc_eq, List.getElem?_map, List.getElem?_eq_getElem hi]; rfl)
  rw [Addr.add_lit] at this
  unfold CellU8; rw [Nat.mul_one]; exact this
theorem cell_runT {w : World} {b T o : Nat} {cs us : List Value} (h : (cellC b T cs).ok w) (hu : (cs.drop o).take us.length = us) : RunAt w ⟨b, o, none⟩ us := by
  intro j v hj
  rw [Addr.add_lit, cell_of_heap h]
  rw [← hu, List.getElem?_take] at hj
  split at hj
  · rw [List.getElem?_drop] at hj; simpa using hj
  · cases hj
/-- pieces that lie apart -/
theorem Sat.offP {A : Ck} {B : List Ck} (H : Sat w0 G w) (is : List Nat) (t : Nat) (hB : (is.filterMap fun i => G[i]?) = B) (ht : G[t]? = some A) (hne : is.all (fun i => !Nat.beq t i) = true) {b : Nat} (hb : A.fp b) : ¬ (sepC B).fp b := by
  rintro ⟨C, hC, hfp⟩
  rw [← hB] at hC
  obtain ⟨i, him, hiC⟩ := List.mem_filterMap.1 hC
  have := List.all_eq_true.1 hne i him
  exact H.apart t i ht hiC (by simpa using this) b hb hfp
theorem off_row {B : List Ck} {e k n c : Nat} {a : Option Addr} {xs : List Value} {P : Prop} (h : ∀ b, (rowC e k (.slice a n c) n xs).fp b → ¬ (sepC B).fp b) : P → ∀ ad, a = some ad → ¬ (sepC B).fp ad.block := fun _ ad ha => h _ (by subst ha; rfl)
theorem off_txt {B : List Ck} {n c : Nat} {a : Option Addr} (h : ∀ b, (txtC (.slice a n c) s).fp b → ¬ (sepC B).fp b) : 0 < s.length → ∀ ad, a = some ad → ¬ (sepC B).fp ad.block := fun h0 ad ha => h _ ⟨h0, by subst ha; rfl⟩
end
section
variable {P : Program} {n : Nat} {f : Nat → Value} {w w0 : World} {dst : Option Tmp} {ty : TypeId} {pos : String} {aft : Array Edge} {gd : Option (Nat × Bool)} {K : Act → World → Prop} {Q : Exit → Act → World → Prop} {G : List Ck}
/-- '[]byte(s)' of a text -/
theorem d_convStr {S D e : TypeId} {x : Operand} {d : Nat} {s : List UInt8} (hd : dst = some d) (H : Sat w0 G w) (hs : P.underlying S = some .string) (hD : P.underlying D = some (.slice e)) (he : P.underlying e = some (.int .u8)) (hx : ev n f x = strV s) (hl : s.length ≤ 1000000) (h0 : 0 < s.length)
    (kk : ∀ b c w', Sat w0 (G ++ [txtC (.slice (some ⟨b, 0, none⟩) s.length c) s]) w' → K (fr n (upd f d (.slice (some ⟨b, 0, none⟩) s.length c))) w') : WO P ⟨dst, .convert S D x, ty, pos, aft, gd⟩ K Q n f w := by
  have hsz : (⟨s.toArray⟩ : ByteArray).size = s.length := by simp [ByteArray.size]
  have hr := run_bytes_of_string (P := P) w S D e ⟨s.toArray⟩ hs hD he
  rw [hsz] at hr
  obtain ⟨C, hC⟩ : ∃ C, C = Obj.cells (bytesRow ⟨s.toArray⟩ (grownCap w s.length 0 e)) e ((bytesRow ⟨s.toArray⟩ (grownCap w s.length 0 e)).size, (bytesRow ⟨s.toArray⟩ (grownCap w s.length 0 e)).size + 1) := ⟨_, rfl⟩
  obtain ⟨w1, hw⟩ : ∃ w1 : World, w1 = w.drew.alloc C := ⟨_, rfl⟩
  rw [← hC, ← hw] at hr
  have hh : w1.heap = w.heap.push C := by rw [hw]; rfl
  refine d_val hd (v := .slice (some ⟨w.heap.size, 0, none⟩) s.length (grownCap w s.length 0 e)) (w' := w1) (by simp [execOp, hx, strV, hr, Result.andThen]) (kk _ _ _ (H.add ⟨by rw [hw]; rfl, by rw [hw]; rfl, by rw [hw]; rfl, by rw [hh]; simp⟩ (fun b hb => by rw [hh, Array.getElem?_push]; simp; omega) ?_ (fun b hb => ?_)))
  · refine .inr ⟨h0, _, 0, _, rfl, ⟨grownCap_ge _ _ _ _, grownCap_le_maxLen _ _ _ _ (by unfold maxLen; omega)⟩, fun i hi => ?_⟩
    unfold CellU8 World.cell?
    simp only [hh, Array.getElem?_push, if_true, Nat.zero_add, Nat.mul_one, hC]
    simp [bytesRow, Array.getElem?_append, hi, byteV]
  · simp only [txtC, Value.ownBlock, Option.some.injEq] at hb; omega
/-- '[]byte("..")' of a constant: its row is read alone from now on -/
theorem d_convMark {S e : TypeId} {x : Operand} {d : Nat} {s : List UInt8} {g c : Nat} (hd : dst = some d) (H : Sat w0 G w) (i : Nat) (hi : G[i]? = some (rowC e 1 (.slice (some ⟨g, 0, none⟩) s.length c) s.length (s.flatMap encB))) (hS : P.underlying S = some (.slice e)) (he : P.underlying e = some (.int .u8)) (hx : ev n f x = .slice (some ⟨g, 0, none⟩) s.length c)
    (kk : ∀ w', Sat w0 (G.set i (txtC (.slice (some ⟨g, 0, none⟩) s.length c) s)) w' → K (fr n (upd f d (.slice (some ⟨g, 0, none⟩) s.length c))) w') : WO P ⟨dst, .convert S S x, ty, pos, aft, gd⟩ K Q n f w := by
  have hok := H.at i hi
  have hL := ListAt.row (enc := encB) (sz := 1) (xs := s) encB_len (by decide) hok
  rcases hok.2 with ⟨hv, _⟩ | ⟨g', cap, cur, hv, _, hgg, hcap, hm, hcs, htake⟩
  · simp at hv
  simp only [Value.slice.injEq, Option.some.injEq, Addr.mk.injEq] at hv
  obtain ⟨⟨rfl, _⟩, _, rfl⟩ := hv
  have hsh : w.shape? g = some (e, cur.size) := by unfold World.shape?; rw [hgg]
  have hlt := heap_lt hgg
  have hr : (convert S S (.slice (some ⟨g, 0, none⟩) s.length c)).run P w = .ok (.slice (some ⟨g, 0, none⟩) s.length c) (w.freeze ⟨g, cur.size, none⟩ 1) := by
    simp [convert, run_underlying hS, run_underlying he, markStringish, hsh]
  have hh : (w.freeze ⟨g, cur.size, none⟩ 1).heap = w.heap.modify g fun
      | .cells c elem (lo, hi) => .cells c elem (if lo == hi then (cur.size, cur.size + 1) else (min lo cur.size, max hi (cur.size + 1)))
      | o => o := by unfold World.freeze; rw [if_neg (by decide)]; rfl
  have hne : ∀ b, b ≠ g → (w.freeze ⟨g, cur.size, none⟩ 1).heap[b]? = w.heap[b]? := fun b hb => by
    rw [hh, Array.getElem?_modify, if_neg (fun h => hb h.symm)]
  have hcell : ∀ p, (w.freeze ⟨g, cur.size, none⟩ 1).cell? p = w.cell? p := fun p => by
    unfold World.cell?
    by_cases hb : p.block = g
    · rw [hb, hh, Array.getElem?_modify, if_pos rfl, hgg]; rfl
    · rw [hne _ hb]
  refine d_val hd (w' := w.freeze ⟨g, cur.size, none⟩ 1) (by simp [execOp, hx, hr, Result.andThen]) (kk _ (H.set i hi ⟨by unfold World.freeze; rw [if_neg (by decide)], by unfold World.freeze; rw [if_neg (by decide)], by unfold World.freeze; rw [if_neg (by decide)], by rw [hh]; simp⟩ (fun b _ hb => hne b fun h => hb (by subst h; rfl)) ?_ (fun b hb => .inl ?_)))
  · exact list_bytes (hL.mono fun p x hx => by rw [hcell]; exact hx)
  · obtain ⟨_, hb⟩ := hb
    exact hb
end
/-! what is signed -/
structure StampD where
  r : Int
  cl : Int
  seq : Int
  h : Hash
  t : Int
  sb : Int
  sm : Int
structure CommitD where
  cl : Int
  seq : Int
  h : Hash
  len : Int
  sb : Int
  sm : Int
def encSt (s : StampD) : List Value := [.int .i64 s.r, .int .i64 s.cl, .int .i64 s.seq] ++ hc s.h ++ [.int .u64 s.t, .int .i64 s.sb, .int .i64 s.sm]
theorem encSt_len (s : StampD) : (encSt s).length = 38 := by simp [encSt]
theorem encSt_one (s : StampD) : (encSt s).all (·.oneCell') = true := by
  simp only [encSt, List.all_append, hc_eq]
  simp [Value.oneCell', byteV]
def stamp0 : StampD := ⟨0, 0, 0, hash0, 0, 0, 0⟩
def encCo (s : CommitD) : List Value := [.int .i64 s.cl, .int .i64 s.seq] ++ hc s.h ++ [.int .i64 s.len, .int .i64 s.sb, .int .i64 s.sm]
def intB (n : Int) : List UInt8 := varB (max 0 n).toNat
def rowB (s : List UInt8) : List UInt8 := varB s.length ++ s
def nameB (a b : Int) : List UInt8 := [intB a, intB b].flatten
def bareB (s : StampD) : List UInt8 := [intB s.r, nameB s.cl s.seq, s.h.l, varB s.t.toNat].flatten
def stampB (s : StampD) : List UInt8 := [rowB [115, 116, 97, 109, 112], bareB s].flatten
def commitB (s : CommitD) : List UInt8 := [rowB [114, 101, 113, 117, 101, 115, 116], intB s.cl, intB s.seq, s.h.l, intB s.len].flatten
theorem varB_len (n : Nat) : (varB n).length ≤ 10 := varF_len 10 n
theorem intB_len (n : Int) : (intB n).length ≤ 10 := varF_len 10 _
theorem nameB_len (a b : Int) : (nameB a b).length ≤ 20 := by
  have h1 := intB_len a; have h2 := intB_len b
  simp only [nameB, List.flatten_cons, List.flatten_nil, List.length_append, List.length_nil]; omega
theorem bareB_len (s : StampD) : (bareB s).length ≤ 72 := by
  have h1 := intB_len s.r; have h2 := nameB_len s.cl s.seq; have h3 := s.h.len; have h4 := varB_len s.t.toNat
  simp only [bareB, List.flatten_cons, List.flatten_nil, List.length_append, List.length_nil]; omega
theorem rowB_len (s : List UInt8) : (rowB s).length ≤ 10 + s.length := by
  have := varB_len s.length
  simp only [rowB, List.length_append]; omega
theorem stampB_len (s : StampD) : (stampB s).length ≤ 100 := by
  have h1 := bareB_len s; have h2 := rowB_len [115, 116, 97, 109, 112]
  simp only [List.length_cons, List.length_nil] at h2
  simp only [stampB, List.flatten_cons, List.flatten_nil, List.length_append, List.length_nil]; omega
theorem commitB_len (s : CommitD) : (commitB s).length ≤ 100 := by
  have h1 := intB_len s.cl; have h2 := intB_len s.seq; have h3 := s.h.len; have h4 := intB_len s.len; have h5 := rowB_len [114, 101, 113, 117, 101, 115, 116]
  simp only [List.length_cons, List.length_nil] at h5
  simp only [commitB, List.flatten_cons, List.flatten_nil, List.length_append, List.length_nil]; omega
end Go.Proofs.Ytenihpghfdcpkaa
