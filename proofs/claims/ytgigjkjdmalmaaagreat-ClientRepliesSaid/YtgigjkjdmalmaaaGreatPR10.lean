/- WHAT IS PROVED: contracts and plain laws of ShaM, ShaS. Conditions: stated with each. -/
import Derived.Test.YtgigjkjdmalmaaaGreatPR05
set_option maxHeartbeats 4000000
set_option maxRecDepth 100000
namespace Go.Proofs.YtgigjkjdmalmaaaGreat
open Go.RowKit
def Zz (k : IntKind) (g T n : Nat) (A : List Int) : Ck where
 fp b := b = g
 ok w := A.length = n ∧ w.heap[g]? = some (.cells ⟨A.map (Value.int k)⟩ T (0, 0))
 stay h hb := ⟨h.1, (hb g rfl).trans h.2⟩
 lt h _ hk := hk ▸ Z12 h.2
section
variable {k : IntKind} {g T n : Nat} {A : List Int} {w w0 w' : World} {G : List Ck}
theorem Z0c (h : (Zz k g T n A).ok w) : A.length = n := h.1
theorem Zv (h : (Zz k g T n A).ok w) {i o : Nat} (hi : i < n) (ho : o = i) : w.cell? ⟨g, o, none⟩ = some (.int k (A.getD i 0)) := by
 subst ho
 rw [Z0v h.2]
 simp [List.getD_eq_getElem?_getD, List.getElem?_eq_getElem (show o < A.length by rw [h.1]; exact hi)]
theorem Z6d (h : (Zz k g T n A).ok w) : Z1t w ⟨g, 0, none⟩ (A.map (Value.int k)) := fun j v hj => by
 rw [Addr.add_lit, Z0v h.2]; simpa using hj
theorem Sat.toW (H : Sat w0 G w) (i : Nat) (k : IntKind) (A : List Int) (hi : G[i]? = some (Z6 g T (A.map (Value.int k)))) (hn : A.length = n) : Sat w0 (G.set i (Zz k g T n A)) w :=
 H.set i hi ⟨rfl, rfl, rfl, Nat.le_refl _⟩ (fun _ _ _ => rfl) ⟨hn, H.at i hi⟩ (fun _b hb => .inl hb)
theorem Sat.offW (H : Sat w0 G w) (i : Nat) (hi : G[i]? = some (Zz k g T n A)) : Sat w0 (G.set i (Z6 g T (A.map (Value.int k)))) w :=
 H.set i hi ⟨rfl, rfl, rfl, Nat.le_refl _⟩ (fun _ _ _ => rfl) (H.at i hi).2 (fun _b hb => .inl hb)
end
section
variable {P : Program} {n : Nat} {f : Nat → Value} {w w0 : World} {dst : Option Tmp} {ty : TypeId} {pos : String} {aft : Array Edge} {gd : Option (Nat × Bool)} {K : Act → World → Prop} {Q : Exit → Act → World → Prop} {G : List Ck}
theorem Z0M (k : IntKind) {T TA m : Nat} {A : List Int} {g i : Nat} {x y : Operand} {z : Int} {o : Nat} (hd : dst = none) (H : Sat w0 G w) (j : Nat) (hj : G[j]? = some (Zz k g TA m A)) (hx : ev n f x = .pointer (some ⟨g, o, none⟩)) (hy : ev n f y = .int k z) (hN : P.cellsOf T = 1) (ho : o = i) (hi : i < m)
  (kk : ∀ w', Sat w0 (G.set j (Zz k g TA m (A.set i z))) w' → K (fr n f) w') : WO P ⟨dst, .store T x y, ty, pos, aft, gd⟩ K Q n f w := by
 have h := H.at j hj
 subst ho
 have hil : o < A.length := by rw [h.1]; exact hi
 obtain ⟨w', hr, hb, he, hk⟩ := Z3b (P := P) (dst := dst) (ty := ty) (pos := pos) (aft := aft) (gd := gd) (vs := [.int k z]) hx hy rfl hN (by simp) h.2 (by simp; omega) (fun v hv => by rw [List.mem_singleton.1 hv]; rfl)
 refine Z3F hd hr (kk w' (H.set j hj he (fun b _ hne => hk b hne) ⟨by simp [h.1], ?_⟩ (fun b hb => .inl hb)))
 have e : Z0x (A.map (Value.int k)) o [Value.int k z] = (A.set o z).map (Value.int k) := by
  rw [List.set_eq_take_append_cons_drop, if_pos hil]
  simp [Z0x]
 rw [← e]; exact hb
theorem ZZ (k : IntKind) {T TA m : Nat} {A B : List Int} {g : Nat} {x y : Operand} {u : Value} (hd : dst = none) (H : Sat w0 G w) (j : Nat) (hj : G[j]? = some (Zz k g TA m A)) (hx : ev n f x = .pointer (some ⟨g, 0, none⟩)) (hy : ev n f y = u) (hu : u.cells = ⟨B.map (Value.int k)⟩) (hN : P.cellsOf T = m) (hm : 0 < m) (hB : B.length = m)
  (kk : ∀ w', Sat w0 (G.set j (Zz k g TA m B)) w' → K (fr n f) w') : WO P ⟨dst, .store T x y, ty, pos, aft, gd⟩ K Q n f w := by
 have h := H.at j hj
 obtain ⟨w', hr, hb, he, hk⟩ := Z3b (P := P) (dst := dst) (ty := ty) (pos := pos) (aft := aft) (gd := gd) (vs := B.map (Value.int k)) hx hy hu (by rw [hN]; simp [hB]) (by simp [hB]; omega) h.2 (by simp [hB, h.1]) (fun v hv => by obtain ⟨z, _, rfl⟩ := List.mem_map.1 hv; rfl)
 refine Z3F hd hr (kk w' (H.set j hj he (fun b _ hne => hk b hne) ⟨hB, ?_⟩ (fun b hb => .inl hb)))
 have e : Z0x (A.map (Value.int k)) 0 (B.map (Value.int k)) = B.map (Value.int k) := by simp [Z0x, hB, h.1]
 rw [← e]; exact hb
theorem Z13 {k : IntKind} {T TA m g : Nat} {A : List Int} {x : Operand} (hx : ev n f x = .pointer (some ⟨g, 0, none⟩)) (hT : Z42 P T = true) (hN : P.cellsOf T = m) (hm : 0 < m) (h : (Zz k g TA m A).ok w) :
  (execOp (ev n f) ⟨dst, .load T x, ty, pos, aft, gd⟩).run P w = .ok (.value (.agg ⟨A.map (Value.int k)⟩)) w :=
 Z0E hx hT (by rw [hN]; simp [h.1]) (by simp [h.1]; omega) (Z6d h)
theorem Z1G {v : Value} {s : List UInt8} (h : ListAt Zo 1 w v s) (h0 : 0 < s.length) : ∃ b o c, v = .slice (some ⟨b, o, none⟩) s.length c := by
 obtain ⟨b, o, c, e, _⟩ := SliceOf.some h h0
 exact ⟨b, o, c, e⟩
theorem Z11 {b o c i p m : Nat} {s : List UInt8} (h : ListAt Zo 1 w (.slice (some ⟨b, o, none⟩) m c) s) (hi : i < s.length) (hp : p = o + i) : w.cell? ⟨b, p, none⟩ = some (.int .u8 ((s.getD i 0).toNat : Int)) := by
 obtain ⟨b', o', c', e, _, hr⟩ := SliceOf.some h (by omega)
 simp only [Value.slice.injEq, Option.some.injEq, Addr.mk.injEq] at e
 obtain ⟨⟨rfl, rfl, _⟩, _, _⟩ := e
 have := hr i hi 0 _ rfl
 rw [Addr.add_lit] at this
 rw [hp, show o + i = o + i * 1 + 0 by omega, this, List.getD_eq_getElem?_getD, List.getElem?_eq_getElem hi]; rfl
end
section
variable {α : Type} {enc : α → List Value} {sz : Nat} {w : World} {xs : List α}
theorem ListAt.dropG {a : Option Addr} {n c k : Nat} (h : ListAt enc sz w (.slice a n c) xs) (hk : k ≤ n) : ListAt enc sz w (.slice (if c = k then a else a.map (·.add (k * sz))) (n - k) (c - k)) (xs.drop k) := by
 rcases h with ⟨a', c', e, rfl, hc, ha⟩ | ⟨h0, b', o', c', e, ⟨h1, h2⟩, h⟩
 ·simp only [Value.slice.injEq] at e
  obtain ⟨rfl, rfl, rfl⟩ := e
  obtain rfl : k = 0 := by omega
  refine .inl ⟨_, _, rfl, by simp, by omega, fun q => ?_⟩
  by_cases h0 : c = 0
  ·omega
  ·rw [if_neg h0] at q
   cases a with
   | none => have := ha rfl; omega
   | some ad => cases q
 ·simp only [Value.slice.injEq] at e
  obtain ⟨rfl, rfl, rfl⟩ := e
  have hl : (xs.drop k).length = xs.length - k := List.length_drop
  by_cases hz : k = xs.length
  ·subst hz
   refine .inl ⟨_, c - xs.length, by rw [Nat.sub_self], by simp, by omega, fun q => ?_⟩
   split at q
   ·cases q
   ·cases q
  ·refine .inr ⟨by omega, b', o' + k * sz, c - k, ?_, ⟨by rw [hl]; omega, by omega⟩, fun i hi => ?_⟩
   ·rw [hl, if_neg (by omega), Option.map_some, Addr.add_lit]
   ·rw [List.getElem_drop]
    have := h (k + i) (by rw [hl] at hi; omega)
    rwa [show o' + k * sz + i * sz = o' + (k + i) * sz by rw [Nat.add_mul]; omega]
end
section
variable {P : Program} {n : Nat} {f : Nat → Value} {w : World} {dst : Option Tmp} {ty : TypeId} {pos : String} {aft : Array Edge} {gd : Option (Nat × Bool)}
theorem Z24 {T E : TypeId} {x y : Operand} {a : Option Addr} {len cap sz : Nat} {k : IntKind} {z : Int} {q : Nat} (hT : P.underlying T = some (.slice E)) (hE : (P.info? E).map (·.size) = some sz) (hx : ev n f x = .slice a len cap) (hy : ev n f y = .int k z) (h1 : z = (q : Int)) (h2 : q ≤ len) :
  (execOp (ev n f) ⟨dst, .slice T x (some y) none none, ty, pos, aft, gd⟩).run P w = .ok (.value (.slice (if cap = q then a else a.map (·.add (q * sz))) (len - q) (cap - q))) w := by
 cases hi : P.info? E with
 | none => rw [hi] at hE; cases hE
 | some inf =>
  rw [hi] at hE
  simp only [Option.map_some, Option.some.injEq] at hE
  subst h1 hE
  have : (Instr.slice T (.slice a len cap) (some (.int k (q : Int))) none none).run P w = .ok (.slice (if cap = q then a else a.map (·.add (q * inf.size))) (len - q) (cap - q)) w := by
   simp [Instr.slice, run_underlying hT, Instr.sliceBounds, Instr.sliceBound, asIntOf, h2, Result.andThen, sizeOf, typeInfo, hi]
  simp only [execOp, Instr.sliceAt, Option.map, hx, hy]
  simp [run_underlying hT, this, Result.andThen]
  cases a <;> rfl
end
def ZH (x n : Int) : Int := bOr .u32 (x / 2 ^ (min n.toNat 32)) (Z0Y .u32 x (32 - n))
def kR : List Int := ([1116352408, 1899447441, 3049323471, 3921009573, 961987163, 1508970993, 2453635748, 2870763221, 3624381080, 310598401, 607225278, 1426881987, 1925078388, 2162078206, 2614888103, 3248222580, 3835390401, 4022224774, 264347078, 604807628, 770255983, 1249150122, 1555081692, 1996064986, 2554220882, 2821834349, 2952996808, 3210313671, 3336571891, 3584528711, 113926993, 338241895, 666307205, 773529912, 1294757372, 1396182291, 1695183700, 1986661051, 2177026350, 2456956037, 2730485921, 2820302411, 3259730800, 3345764771, 3516065817, 3600352804, 4094571909, 275423344, 430227734, 506948616, 659060556, 883997877, 958139571, 1322822218, 1537002063, 1747873779, 1955562222, 2024104815, 2227730452, 2361852424, 2428436474, 2756734187, 3204031479, 3329325298] : List Int)
def ldS (D : List UInt8) (b : Nat) (i : Nat) (A : List Int) : List Int := (A.set i (bOr .u32 (bOr .u32 (bOr .u32 (Z0Y .u32 (IntKind.u32.wrap ((((D.drop ((64 * b) + (4 * i))).getD 0 0).toNat : Int))) 24) (Z0Y .u32 (IntKind.u32.wrap ((((D.drop ((64 * b) + (4 * i))).getD 1 0).toNat : Int))) 16)) (Z0Y .u32 (IntKind.u32.wrap ((((D.drop ((64 * b) + (4 * i))).getD 2 0).toNat : Int))) 8)) (IntKind.u32.wrap ((((D.drop ((64 * b) + (4 * i))).getD 3 0).toNat : Int)))))
def exS (j : Nat) (B : List Int) : List Int := (B.set (j + 16) (IntKind.u32.wrap ((IntKind.u32.wrap ((IntKind.u32.wrap ((B.getD ((j + 16) - 16) 0) + (ZA .u32 (ZA .u32 (ZH (B.getD ((j + 16) - 15) 0) 7) (ZH (B.getD ((j + 16) - 15) 0) 18)) ((B.getD ((j + 16) - 15) 0) / 8)))) + (B.getD ((j + 16) - 7) 0))) + (ZA .u32 (ZA .u32 (ZH (B.getD ((j + 16) - 2) 0) 17) (ZH (B.getD ((j + 16) - 2) 0) 19)) ((B.getD ((j + 16) - 2) 0) / 1024)))))
def ruS (B : List Int) (i : Nat) (V : List Int) : List Int := ([IntKind.u32.wrap ((IntKind.u32.wrap ((IntKind.u32.wrap ((IntKind.u32.wrap ((IntKind.u32.wrap ((V.getD 7 0) + (ZA .u32 (ZA .u32 (ZH (V.getD 4 0) 6) (ZH (V.getD 4 0) 11)) (ZH (V.getD 4 0) 25)))) + (ZA .u32 (Z03 .u32 (V.getD 4 0) (V.getD 5 0)) (Z03 .u32 (ZA .u32 4294967295 (V.getD 4 0)) (V.getD 6 0))))) + (kR.getD i 0))) + (B.getD i 0))) + (IntKind.u32.wrap ((ZA .u32 (ZA .u32 (ZH (V.getD 0 0) 2) (ZH (V.getD 0 0) 13)) (ZH (V.getD 0 0) 22)) + (ZA .u32 (ZA .u32 (Z03 .u32 (V.getD 0 0) (V.getD 1 0)) (Z03 .u32 (V.getD 0 0) (V.getD 2 0))) (Z03 .u32 (V.getD 1 0) (V.getD 2 0)))))), V.getD 0 0, V.getD 1 0, V.getD 2 0, IntKind.u32.wrap ((V.getD 3 0) + (IntKind.u32.wrap ((IntKind.u32.wrap ((IntKind.u32.wrap ((IntKind.u32.wrap ((V.getD 7 0) + (ZA .u32 (ZA .u32 (ZH (V.getD 4 0) 6) (ZH (V.getD 4 0) 11)) (ZH (V.getD 4 0) 25)))) + (ZA .u32 (Z03 .u32 (V.getD 4 0) (V.getD 5 0)) (Z03 .u32 (ZA .u32 4294967295 (V.getD 4 0)) (V.getD 6 0))))) + (kR.getD i 0))) + (B.getD i 0)))), V.getD 4 0, V.getD 5 0, V.getD 6 0] : List Int)
def adS (V : List Int) (i : Nat) (X : List Int) : List Int := (X.set i (IntKind.u32.wrap ((X.getD i 0) + (V.getD i 0))))
def ouS (HH : List Int) (i : Nat) (O : List Int) : List Int := ((((O.set (4 * i) (IntKind.u8.wrap ((HH.getD i 0) / 16777216))).set ((4 * i) + 1) (IntKind.u8.wrap ((HH.getD i 0) / 65536))).set ((4 * i) + 2) (IntKind.u8.wrap ((HH.getD i 0) / 256))).set ((4 * i) + 3) (IntKind.u8.wrap (HH.getD i 0)))
def Z69 (n : Nat) : Nat := (119 - n % 64) % 64
def padP (s : List UInt8) : List UInt8 := s ++ [128] ++ List.replicate (Z69 s.length) 0
def Z5L (bits : Int) : Nat → List UInt8
 | 0 => []
 | q + 1 => Z5L bits q ++ [UInt8.ofNat (IntKind.u8.wrap (bits / 2 ^ (min (8 * (7 - (q : Int))).toNat 64))).toNat]
def Z6R (s : List UInt8) : List UInt8 := padP s ++ Z5L ((s.length : Int) * 8) 8
def wLd (D : List UInt8) (b : Nat) : Nat → List Int
 | 0 => List.replicate 64 0
 | i + 1 => ldS D b i (wLd D b i)
def wEx (A : List Int) : Nat → List Int
 | 0 => A
 | j + 1 => exS j (wEx A j)
def wOf (D : List UInt8) (b : Nat) : List Int := wEx (wLd D b 16) 48
def vRu (B HH : List Int) : Nat → List Int
 | 0 => HH
 | i + 1 => ruS B i (vRu B HH i)
def hAd (V HH : List Int) : Nat → List Int
 | 0 => HH
 | i + 1 => adS V i (hAd V HH i)
def Z6C (D : List UInt8) : Nat → List Int
 | 0 => [1779033703, 3144134277, 1013904242, 2773480762, 1359893119, 2600822924, 528734635, 1541459225]
 | b + 1 => hAd (vRu (wOf D b) (Z6C D b) 64) (Z6C D b) 8
def oOf (HH : List Int) : Nat → List Int
 | 0 => List.replicate 32 0
 | i + 1 => ouS HH i (oOf HH i)
theorem Z4u (bits : Int) (q : Nat) : (Z5L bits q).length = q := by
 induction q with
 | zero => rfl
 | succ q ih => simp [Z5L, ih]
theorem Z4v (bits : Int) (q : Nat) : Z5L bits (q + 1) = Z5L bits q ++ [UInt8.ofNat (IntKind.u8.wrap (bits / 2 ^ (min (8 * (7 - (q : Int))).toNat 64))).toNat] := rfl
theorem Z4z (s : List UInt8) (j : Nat) : s ++ [128] ++ List.replicate j 0 ++ [0] = s ++ [128] ++ List.replicate (j + 1) 0 := by
 rw [List.replicate_succ', List.append_assoc]
theorem Z0X (z : Int) : 0 ≤ IntKind.u8.wrap z ∧ IntKind.u8.wrap z < 256 := by
 rw [Z1s]; omega
theorem Z6F (HH : List Int) (i : Nat) : (oOf HH i).length = 32 := by
 induction i with
 | zero => rfl
 | succ i ih => simp [oOf, ouS, ih]
theorem Z3q {A : List Int} {i : Nat} {z : Int} (h : ∀ x ∈ A, 0 ≤ x ∧ x < 256) (hz : 0 ≤ z ∧ z < 256) : ∀ x ∈ A.set i z, 0 ≤ x ∧ x < 256 := fun x hx => by
 rcases List.mem_or_eq_of_mem_set hx with h1 | rfl
 ·exact h x h1
 ·exact hz
theorem Z6G (HH : List Int) (i : Nat) : ∀ x ∈ oOf HH i, 0 ≤ x ∧ x < 256 := by
 induction i with
 | zero => intro x hx; obtain ⟨_, rfl⟩ := List.mem_replicate.1 hx; omega
 | succ i ih => exact Z3q (Z3q (Z3q (Z3q ih (Z0X _)) (Z0X _)) (Z0X _)) (Z0X _)
theorem Z43 {L : List Int} (h : ∀ x ∈ L, 0 ≤ x ∧ x < 256) : L.map (Value.int .u8) = (L.map fun z => UInt8.ofNat z.toNat).map Z1g := by
 rw [List.map_map]
 refine List.map_congr_left fun z hz => ?_
 obtain ⟨h0, h1⟩ := h z hz
 simp only [Function.comp, Z1g]
 congr 1
 simp; omega
def Z5g (L : List Int) (h : L.length = 32) : Z1Q := ⟨L.map fun z => UInt8.ofNat z.toNat, by simp [h]⟩
theorem Z3K (L : List Int) (h : L.length = 32) (hr : ∀ x ∈ L, 0 ≤ x ∧ x < 256) : L.map (Value.int .u8) = hc (Z5g L h) := (Z43 hr).trans (Z3L (Z5g L h)).symm
def Z6g (s : List UInt8) : List Int := oOf (Z6C (Z6R s) ((Z6R s).length / 64)) 8
theorem Z4E (s : List UInt8) : (Z6g s).length = 32 := Z6F _ _
theorem Z6h (s : List UInt8) : ∀ x ∈ Z6g s, 0 ≤ x ∧ x < 256 := Z6G _ _
def Z8 (s : List UInt8) : Z1Q := Z5g (Z6g s) (Z4E s)
theorem Z30 (s : List UInt8) : (Z6g s).map (Value.int .u8) = hc (Z8 s) := Z3K (Z6g s) (Z4E s) (Z6h s)
end Go.Proofs.YtgigjkjdmalmaaaGreat
