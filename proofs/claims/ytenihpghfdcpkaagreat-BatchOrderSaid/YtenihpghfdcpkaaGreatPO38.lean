/- WHAT IS PROVED: contracts and plain laws of TabG, FullAp. Conditions: stated with each. -/
import Derived.ArgAppend
import Derived.Sort.Walk0
import Derived.Test.YtenihpghfdcpkaaGreatPO02
import Derived.Test.YtenihpghfdcpkaaGreatPO05
import Derived.Test.YtenihpghfdcpkaaGreatPO06
import Derived.Test.YtenihpghfdcpkaaGreatPO24
import Derived.Test.YtenihpghfdcpkaaGreatPO25
set_option maxHeartbeats 4000000
set_option maxRecDepth 100000
namespace Go.Proofs.YtenihpghfdcpkaaGreat
open Go.RowKit
abbrev Ze5 (p0 : Int) (p1 : Int) : List Value := ([i6 p0, i6 p1] : LV)
abbrev Z7g : List Value := ([i6 0, i6 0] : LV) ++ hc ZC ++ ([i6 0, i6 0, i6 0, (.slice none 0 0)] : LV)
abbrev Zgc (p0 : CeR) : List Value := ([i6 p0.x.cl, i6 p0.x.seq] : LV) ++ hc p0.x.h ++ ([i6 p0.x.len, i6 p0.x.sb, i6 p0.x.sm, (.slice p0.sa p0.S.length p0.sc)] : LV)
theorem Zfe (w : World) (t : Nat) (F Cn rp : Int) (la : Option Addr) (lc : Nat) (L : List CeR) (ht : (Z0 t 107 [i6 F, i6 Cn, i6 rp, .slice la L.length lc]).ok w) (hrow : (Zh 76 38 (.slice la L.length lc) L.length (L.flatMap Z0Z)).ok w) (hlL : L.length ≤ 64) (a b : Int) :
  Calls Tryz.prog 86 #[zp t, (.agg ⟨([i6 a, i6 b] : LV)⟩)] w fun e w' => e = .returned (.tuple #[.agg ⟨Z0Z ((Z01 L a b).getD ce0)⟩, .bool (Z01 L a b).isSome]) ∧ Upd [] w w' := by
 have H := Sat.start0 w
 have hlL0 := hlL
 refine Za Tryz.func86 rfl 35 rfl kn ?_
 let A2 := Ze5 a b
 refine zsl <| zy <| zdb A2 H fun b2 w3 H4 => ?_
 refine kk <| zy <| zda (Z7g) H4 fun b6 w7 H8 => ?_
 let A1 : Value := .slice la L.length lc
 refine kk <| wv 5 (.bool false) <| znt <| Z7 <| zsl <| wv 7 (pt t 0) <| wv 8 (pt t 0) <| wv 9 (pt t 3) <| zw1 10 A1 (H8.roCell 0 rfl ht (fun h => h) rfl) <| wv 11 (vi L.length) ?_
 refine wv 12 (vi 0) <| znt <| Zc <| Zq ([5, 6] ++ List.range' 12 22) (fun F_ W_ m_ => ∃ (i : Nat), F_ 12 = (vi i) ∧ (i ≤ L.length) ∧ (∀ j, j < i → ∀ y, L[j]? = some y → ¬ (y.x.cl = a ∧ y.x.seq = b)) ∧ Sat w [zR w, Z0 b2 59 A2, Z0 b6 76 (Z7g)] W_ ∧ m_ = L.length - i) _ ⟨0, (show ((vi 0) : Value) = _ by first | rfl | go_num), (Nat.zero_le _), (fun _ h => absurd h (Nat.not_lt_zero _)), H8, rfl⟩ ?_
 rintro g9 w10 _ ⟨i, v12, hi, hno, H11, rfl⟩
 refine Ze 12 _ v12 ?_
 refine zsl <| wv 13 (.bool (decide ((i : Int) < L.length))) <| znt <| Z7 ?_
 refine zid (fun b14 g15 => ?_) fun b14 g29 => ?_
 ·refine Zm <| ztn <| Z7 <| Zc <| zsl <| wv 14 (vi i) <| wv 6 (vi i) <| znt <| Z7 <| zqs H11 ?_
  refine qv 15 (pt t 0) <| qv 16 (pt t 0) <| qv 17 (pt t 3) <| qv 18 A1 ?_ (hr := fun _ H' => (zl1 (H'.roCell 0 rfl ht (fun h => h) rfl)))
  refine qv 19 (vi i) ?_
  obtain ⟨g17, c18, e19⟩ := Z0w hrow om
  obtain ⟨x20, h21⟩ := Z2z (show i < L.length by omega)
  let A0 : Value := .pointer (some ⟨g17, 0 + ((i : Int)).toNat * 38, none⟩)
  refine qv 20 A0 ?_ (hr := fun _ H' => (ZA (E := 76) kr kr kn rfl e19 rfl om om))
  let A4 := Ze5 x20.x.cl x20.x.seq
  refine qv 21 A0 <| qv 22 A0 <| qv 23 (.agg ⟨A4⟩) ?_ (hr := fun _ H' => (ZE (vs := A4) rfl kr kr kn (Z0J (H'.roCk 0 rfl hrow (fun _ _ h => h)) e19 Z0W h21 0 (show 0 + ((i : Int)).toNat * 38 = i * 38 + 0 by omega) kr kr)))
  refine qv 24 (.agg ⟨A2⟩) ?_ (hr := fun _ H' => (zlN (vs := A2) (H'.at 1 rfl)))
  refine qv 25 (.bool (decide (x20.x.cl = a ∧ x20.x.seq = b))) ?_ (hr := fun _ H' => (Z6y x20.x.cl x20.x.seq a b rfl rfl))
  refine Z09 ?_
  intro w22 H23
  apply ztn
  refine zid (fun b24 _ => ?_) fun b24 _ => ?_
  ·refine zsl <| wv 26 (pt t 0) <| wv 27 (pt t 0) <| wv 28 (pt t 3) <| zw1 29 A1 (H23.roCell 0 rfl ht (fun h => h) rfl) <| wv 30 (vi i) <| wv 31 A0 ?_ (hr := ZA (E := 76) kr kr kn rfl e19 rfl om om)
   let A3 := Zgc x20
   refine wv 32 (.agg ⟨A3⟩) ?_ (hr := ZE (vs := A3) rfl kr kr kn (Z0J (H23.roCk 0 rfl hrow (fun _ _ h => h)) e19 Z0W h21 0 (show 0 + ((i : Int)).toNat * 38 = i * 38 + 0 by omega) kr kr))
   refine zy <| Z1p A3 H23 2 fun w26 H27 => ?_
   refine kk <| wv 5 (.bool true) <| znt <| Zk <| Zu <| Zb <| ZT <| Zu <| Zb <| Z9S rfl (ZP (vs := A3) rfl kr kr kn (H27.at 2 rfl) kr) (Z0R (v := (.bool true)) rfl) ?_
   exact ⟨by rw [ZeE hno h21 b24]; rfl, H27.upd 0 rfl [] ne⟩
  refine Zm <| Z6 <| ztn <| Zl <| zwi 33 ((i : Int) + 1) <| wv 12 (vi ((i : Int) + 1)) <| Zn <| Z5 ?_ _ ⟨(i + 1), rfl, om, (Zeg hno h21 b24), H23, rfl⟩ om
  exact zs
 refine zxb <| ztn <| zsl <| wv 34 (.agg ⟨(Z7g)⟩) <| zy <| Z1p (Z7g) H11 2 fun w32 H33 => ?_
 refine kk <| wv 5 (.bool false) <| znt <| Zk <| Z9S rfl (ZP (vs := (Z7g)) rfl kr kr kn (H33.at 2 rfl) kr) (Z0R (v := (.bool false)) rfl) ?_
 exact ⟨by rw [Zef hno (show L.length ≤ i by omega)]; kernel_rfl, H33.upd 0 rfl [] ne⟩
section
variable {α : Type} {enc : α → List Value} {sz : Nat} {w : World} {xs : List α}
theorem Zg4 {w : World} {e size n base : Nat} {v : Value} {xs : List Value} (h : w.ownsRow base e size v n xs) : (Zh e size v n xs).ok w ∧ ∀ b, v.ownBlock = some b → base ≤ b := by
 refine ⟨⟨h.1, ?_⟩, fun b hb => ?_⟩
 ·rcases h.2 with hn | ⟨g, cap, cur, hv, hb, rest⟩
  ·exact .inl hn
  ·exact .inr ⟨g, cap, cur, hv, Nat.zero_le _, rest⟩
 ·rcases h.2 with ⟨rfl, _⟩ | ⟨g, cap, cur, rfl, hg, _⟩
  ·simp [Value.ownBlock] at hb
  ·simp [Value.ownBlock] at hb; omega
theorem ListAt.take3 {a : Option Addr} {n c k : Nat} (h : ListAt enc sz w (.slice a n c) xs) (hk : k ≤ n) (_h0 : 0 < sz) (_hs : ∀ x, (enc x).length = sz) : ListAt enc sz w (.slice a k k) (xs.take k) := by
 have hc := ListAt.cap h
 rcases h with ⟨a', c', e, rfl, hc, ha⟩ | ⟨hp, b, o, c', e, ⟨h1, h2⟩, h⟩
 ·simp only [Value.slice.injEq] at e
  obtain ⟨rfl, rfl, rfl⟩ := e
  obtain rfl : k = 0 := by omega
  exact .inl ⟨_, _, rfl, by simp, by omega, fun _ => rfl⟩
 ·simp only [Value.slice.injEq] at e
  obtain ⟨rfl, rfl, rfl⟩ := e
  have hl : (xs.take k).length = k := by rw [List.length_take]; omega
  by_cases hz : k = 0
  ·subst hz; exact .inl ⟨_, _, rfl, by simp, by omega, fun _ => rfl⟩
  ·refine .inr ⟨by omega, b, o, _, by rw [hl], ⟨by omega, by omega⟩, fun i hi => ?_⟩
   rw [List.getElem_take]
   exact h i (by rw [hl] at hi; omega)
end
section
variable {P : Program} {n : Nat} {f : Nat → Value} {w w' : World} {dst : Option Tmp} {ty : TypeId} {pos : String} {aft : Array Edge} {gd : Option (Nat × Bool)} {w0 : World} {G : List Ck} {K : Act → World → Prop} {Q : Exit → Act → World → Prop}
theorem Zf6 {T E : TypeId} {x y z : Operand} {a : Option Addr} {len cap : Nat} {k k' : IntKind} {i j : Int} {q : Nat} (hT : P.underlying T = some (.slice E)) (hE : (P.info? E).isSome = true) (hx : ev n f x = .slice a len cap) (hy : ev n f y = .int k i) (hz : ev n f z = .int k' j) (h1 : i = (q : Int)) (h2 : j = (q : Int)) (h3 : q ≤ cap) :
  (execOp (ev n f) ⟨dst, .slice T x none (some y) (some z), ty, pos, aft, gd⟩).run P w = .ok (.value (.slice a q q)) w := by
 obtain ⟨inf, hi⟩ := Option.isSome_iff_exists.1 hE
 subst h1 h2
 have e0 : a.map (·.add (0 * inf.size)) = a := by cases a <;> simp [Addr.add]
 have : (Instr.slice T (.slice a len cap) none (some (.int k (q : Int))) (some (.int k' (q : Int)))).run P w = .ok (.slice a q q) w := by
  simp [Instr.slice, run_underlying hT, Instr.sliceBounds, Instr.sliceBound, asIntOf, h3, Result.andThen, sizeOf, typeInfo, hi]
  intro _
  cases a <;> simp [Addr.add]
 simp only [execOp, Instr.sliceAt, Option.map, hx, hy, hz]
 simp [run_underlying hT, this, Result.andThen]
theorem ZaH {α : Type} {enc : α → List Value} {T e : TypeId} {size bytes : Nat} (hR : Z5V P T e size bytes = true) (hs : ∀ x, (enc x).length = size) (h1 : ∀ x, (enc x).all (·.oneCell') = true) {a : Option Addr} {u : Value} {k : Nat} {xs ys : List α} (hv : ListAt enc size w (.slice a k k) xs) (hk : xs.length = k) (hu : ListAt enc size w u ys) (hp : 0 < ys.length) (hb : (k + ys.length) * bytes ≤ 140737488355328) (h63 : k + ys.length ≤ 140737488355328) :
  ∃ v' w', (Builtin.append_ #[T, T] ty #[.slice a k k, u]).run P w = .ok v' w' ∧ (Zh e size v' (k + ys.length) ((xs ++ ys).flatMap enc)).ok w' ∧ w.grownBy w' none ∧ ∀ b, v'.ownBlock = some b → w.heap.size ≤ b := by
 obtain ⟨i, z, ht, hi, hz, hsz, hby, hzs, h0⟩ := Z3z hR
 obtain ⟨b2, o2, c2, rfl, hc2⟩ := hu.cells hs h0 hp
 have grow := fun (ad : Addr) (olds : LV) (hlo : olds.length = k * size) (holds : ∀ j u, olds[j]? = some u → w.cell? (ad.add j) = some u) =>
  run_append_arg_grows (P := P) w T ty e i z size bytes ht hi hz hsz hby hzs h0 ad k k olds hlo holds ⟨b2, o2, none⟩ ys.length c2 (ys.flatMap enc) (Z0T enc size hs ys) hc2 (by omega) (by unfold maxLen; omega) hb
 have fin : ∀ (ad : Addr), a = some ad → (∀ j u, (xs.flatMap enc)[j]? = some u → w.cell? (ad.add j) = some u) → _ := fun ad ha holds => grow ad (xs.flatMap enc) (by rw [Z0T enc size hs, hk]) holds
 have done : ∀ v' w', w'.ownsRow w.heap.size e size v' (k + ys.length) (xs.flatMap enc ++ ys.flatMap enc) → (Zh e size v' (k + ys.length) ((xs ++ ys).flatMap enc)).ok w' ∧ ∀ b, v'.ownBlock = some b → w.heap.size ≤ b := fun v' w' h => by
  rw [← List.flatMap_append] at h
  exact Zg4 h
 cases a with
 | some ad =>
  by_cases hz0 : 0 < xs.length
  ·obtain ⟨b, o, c, he, hc⟩ := hv.cells hs h0 hz0
   simp only [Value.slice.injEq, Option.some.injEq] at he
   obtain ⟨rfl, _, _⟩ := he
   obtain ⟨v', w', hr, ho, hg⟩ := fin _ rfl hc
   exact ⟨v', w', hr, (done v' w' ho).1, hg, (done v' w' ho).2⟩
  ·obtain rfl : xs = [] := List.eq_nil_of_length_eq_zero (by omega)
   obtain ⟨v', w', hr, ho, hg⟩ := fin _ rfl (by simp)
   exact ⟨v', w', hr, (done v' w' ho).1, hg, (done v' w' ho).2⟩
 | none =>
  obtain rfl : xs = [] := by
   rcases hv with ⟨_, _, _, h, _⟩ | ⟨_, _, _, _, e, _⟩
   ·exact h
   ·simp at e
  have hk0 : k = 0 := by simpa using hk.symm
  subst hk0
  obtain ⟨v', w', hr, ho, hg, hn⟩ := Z5g (ty := ty) hR hs h1 (World.ownsRow_nil w 0 e size) (u := .slice (some ⟨b2, o2, none⟩) ys.length c2) hu (by simpa using hb) (by simpa using h63)
  simp only [Nat.zero_add, List.nil_append] at ho ⊢
  exact ⟨v', w', hr, ho, hg, fun b hb => (hn b hb).resolve_left (by simp [Value.ownBlock])⟩
theorem Z93 {α : Type} {enc : α → List Value} {T e : TypeId} {size bytes : Nat} {x y : Operand} {d : Nat} (hd : dst = some d) (H : Sat w0 G w) (hR : Z5V P T e size bytes = true) (hs : ∀ x, (enc x).length = size) (h1 : ∀ x, (enc x).all (·.oneCell') = true) {a : Option Addr} {u : Value} {k : Nat} {xs ys : List α} (hv : ListAt enc size w (.slice a k k) xs) (hk : xs.length = k) (hu : ListAt enc size w u ys) (hp : 0 < ys.length)
  (hx : ev n f x = .slice a k k) (hy : ev n f y = u) (hb : (k + ys.length) * bytes ≤ 140737488355328) (h63 : k + ys.length ≤ 140737488355328)
  (kk : ∀ v' w', Sat w0 (G ++ [Zh e size v' (xs ++ ys).length ((xs ++ ys).flatMap enc)]) w' → K (fr n (upd f d v')) w') : WO P ⟨dst, .call { callee := .builtin .append, args := #[x, y], argTypes := #[T, T] }, ty, pos, aft, gd⟩ K Q n f w := by
 obtain ⟨v', w', hr, ho, hg, hn⟩ := ZaH (ty := ty) hR hs h1 hv hk hu hp hb h63
 rw [show k + ys.length = (xs ++ ys).length by rw [List.length_append, hk]] at ho
 exact Z4s hd (Z5t hx hy hr) (kk v' w' (H.add (Z4B hg) (fun b hb => hg.block b hb (by simp)) ho hn))
end
end Go.Proofs.YtenihpghfdcpkaaGreat
