/- WHAT IS PROVED: contracts and plain laws of TabG, LtO, LtE, Maps, LtC, FullAp, LtR. Conditions: stated with each. -/
import Derived.WalkSpells
import Derived.MapKept
import Derived.ArgAppend
import Derived.Sort.Walk0
import Derived.Test.YtoaifondpohniaaGreatPR04
import Derived.Test.YtoaifondpohniaaGreatPR05
import Derived.Test.YtoaifondpohniaaGreatPR14
import Derived.Test.YtoaifondpohniaaGreatPR15
import Derived.Test.YtoaifondpohniaaGreatPR17
import Derived.Test.YtoaifondpohniaaGreatPR22
import Derived.Test.YtoaifondpohniaaGreatPR24
import Derived.Test.YtoaifondpohniaaGreatPR28
set_option maxHeartbeats 4000000
set_option maxRecDepth 100000
namespace Go.Proofs.YtoaifondpohniaaGreat
open Go.RowKit
abbrev Z4N (p0 : Int) (p1 : Int) : List Value := ([(.int .i64 p0), (.int .i64 p1)] : List Value)
abbrev Z5A : List Value := ([(.int .i64 (0)), (.int .i64 (0))] : List Value) ++ hc Z0d ++ ([(.int .i64 (0)), (.int .i64 (0)), (.int .i64 (0)), (.slice none 0 0)] : List Value)
abbrev Z6Q (p0 : CeR) : List Value := ([(.int .i64 p0.x.cl), (.int .i64 p0.x.seq)] : List Value) ++ hc p0.x.h ++ ([(.int .i64 p0.x.len), (.int .i64 p0.x.sb), (.int .i64 p0.x.sm), (.slice p0.sa p0.S.length p0.sc)] : List Value)
theorem ZbA (w : World) (t : Nat) (F Cn rp : Int) (la : Option Addr) (lc : Nat) (L : List CeR) (ht : (Z0 t 45 [.int .i64 F, .int .i64 Cn, .int .i64 rp, .slice la L.length lc]).ok w) (hrow : (ZH 53 38 (.slice la L.length lc) L.length (L.flatMap Z0h)).ok w) (hlL : L.length ≤ 64) (a b : Int) :
  Calls Tryz.prog 43 #[(.pointer (some ⟨t, 0, none⟩)), (.agg ⟨([(.int .i64 (a)), (.int .i64 (b))] : List Value)⟩)] w fun e w' => e = .returned (.tuple #[.agg ⟨Z0h ((ZR L a b).getD ce0)⟩, .bool (ZR L a b).isSome]) ∧ Upd [] w w' := by
 have H := Sat.start0 w
 have hlL0 := hlL
 refine Zp Tryz.func43 rfl 35 rfl (Nat.le_of_ble_eq_true rfl) ?_
 apply zsl
 refine zwd fun Kq kq => ?_
 refine zdb (Z4N a b) H ?_
 intro b2 w3 H4
 refine kq _ _ ?_
 clear kq Kq
 refine zwd fun Kq kq => ?_
 refine zda (Z5A) H4 ?_
 intro b6 w7 H8
 refine kq _ _ ?_
 clear kq Kq
 refine wv 5 (.bool false) ?_
 apply znt
 apply Zt
 apply zsl
 refine wv 7 (pt t 0) ?_
 refine wv 8 (pt t 0) ?_
 refine wv 9 (pt t 3) ?_
 refine zw1 10 (.slice la L.length lc) (H8.roCell 0 rfl ht (fun h => h) rfl) ?_
 refine wv 11 (.int .i64 ((L.length : Int))) ?_
 refine wv 12 (.int .i64 (0)) ?_
 apply znt
 apply ZG
 refine Z02 ([5, 6] ++ List.range' 12 22) (fun F_ W_ m_ => ∃ (i : Nat), F_ 12 = (.int .i64 ((i : Int))) ∧ (i ≤ L.length) ∧ (∀ j, j < i → ∀ y, L[j]? = some y → ¬ (y.x.cl = a ∧ y.x.seq = b)) ∧ Sat w [Z6 w (fun _ => False), Z0 b2 24 (Z4N a b), Z0 b6 53 (Z5A)] W_ ∧ m_ = L.length - i) _ ⟨0, (show ((.int .i64 (0)) : Value) = _ by first | rfl | go_num), (Nat.zero_le _), (fun _ h => absurd h (Nat.not_lt_zero _)), H8, rfl⟩ ?_
 rintro g9 w10 _ ⟨i, v12, hi, hno, H11, rfl⟩
 refine ZF 12 _ v12 ?_
 apply zsl
 refine wv 13 (.bool (decide ((i : Int) < (L.length : Int)))) ?_
 apply znt
 apply Zt
 refine (Zl (decide ((i : Int) < (L.length : Int)))).elim (fun b14 => ?_) (fun b14 => ?_)
 ·have g15 := of_decide_eq_true b14
  refine Z1o _ b14 ?_
  apply ZL
  apply ztn
  apply Zt
  apply ZG
  apply zsl
  refine wv 14 (.int .i64 ((i : Int))) ?_
  refine wv 6 (.int .i64 ((i : Int))) ?_
  apply znt
  apply Zt
  refine zqs H11 ?_
  refine qv 15 (pt t 0) ?_
  refine qv 16 (pt t 0) ?_
  refine qv 17 (pt t 3) ?_
  refine qv 18 (.slice la L.length lc) ?_ (hr := fun _ H' => (Z2 rfl (by kernel_rfl) (H'.roCell 0 rfl ht (fun h => h) rfl)))
  refine qv 19 (.int .i64 ((i : Int))) ?_
  obtain ⟨g17, c18, e19⟩ := Z1n hrow (by omega)
  obtain ⟨x20, h21⟩ := Z2j (show i < L.length by omega)
  refine qv 20 (.pointer (some ⟨g17, 0 + ((i : Int)).toNat * 38, none⟩)) ?_ (hr := fun _ H' => (Z0t (E := 53) (by kernel_rfl) (by kernel_rfl) (Nat.le_of_ble_eq_true rfl) rfl e19 rfl (by omega) (by omega)))
  refine qv 21 (.pointer (some ⟨g17, 0 + ((i : Int)).toNat * 38, none⟩)) ?_
  refine qv 22 (.pointer (some ⟨g17, 0 + ((i : Int)).toNat * 38, none⟩)) ?_
  refine qv 23 (.agg ⟨(Z4N x20.x.cl x20.x.seq)⟩) ?_ (hr := fun _ H' => (Z0f (vs := (Z4N x20.x.cl x20.x.seq)) rfl (by kernel_rfl) (by kernel_rfl) (Nat.le_of_ble_eq_true (by kernel_rfl)) (Z2a (H'.roCk 0 rfl hrow (fun _ _ h => h)) e19 ZZ h21 0 (show 0 + ((i : Int)).toNat * 38 = i * 38 + 0 by omega) (by kernel_rfl) (by kernel_rfl))))
  refine qv 24 (.agg ⟨(Z4N a b)⟩) ?_ (hr := fun _ H' => (Zc (vs := (Z4N a b)) rfl (by kernel_rfl) (by kernel_rfl) (by exact Nat.le_of_ble_eq_true (by kernel_rfl)) (H'.at 1 rfl) (by kernel_rfl)))
  refine qv 25 (.bool (decide (x20.x.cl = a ∧ x20.x.seq = b))) ?_ (hr := fun _ H' => (Zb4 x20.x.cl x20.x.seq a b rfl rfl))
  refine Z0S ?_
  intro w22 H23
  apply ztn
  refine (Zl (decide (x20.x.cl = a ∧ x20.x.seq = b))).elim (fun b24 => ?_) (fun b24 => ?_)
  ·refine Z1o _ b24 ?_
   apply zsl
   refine wv 26 (pt t 0) ?_
   refine wv 27 (pt t 0) ?_
   refine wv 28 (pt t 3) ?_
   refine zw1 29 (.slice la L.length lc) (H23.roCell 0 rfl ht (fun h => h) rfl) ?_
   refine wv 30 (.int .i64 ((i : Int))) ?_
   refine wv 31 (.pointer (some ⟨g17, 0 + ((i : Int)).toNat * 38, none⟩)) ?_ (hr := Z0t (E := 53) (by kernel_rfl) (by kernel_rfl) (Nat.le_of_ble_eq_true rfl) rfl e19 rfl (by omega) (by omega))
   refine wv 32 (.agg ⟨(Z6Q x20)⟩) ?_ (hr := Z0f (vs := (Z6Q x20)) rfl (by kernel_rfl) (by kernel_rfl) (Nat.le_of_ble_eq_true (by kernel_rfl)) (Z2a (H23.roCk 0 rfl hrow (fun _ _ h => h)) e19 ZZ h21 0 (show 0 + ((i : Int)).toNat * 38 = i * 38 + 0 by omega) (by kernel_rfl) (by kernel_rfl)))
   refine zwd fun Kq kq => ?_
   refine Z2k (Z6Q x20) H23 2 ?_
   intro w26 H27
   refine kq _ _ ?_
   clear kq Kq
   refine wv 5 (.bool true) ?_
   apply znt
   apply ZA
   apply ZP
   apply Zr
   apply Z0l
   apply ZP
   apply Zr
   refine Z9g rfl (Z0i (vs := (Z6Q x20)) rfl (by kernel_rfl) (by kernel_rfl) (by exact Nat.le_of_ble_eq_true (by kernel_rfl)) (H27.at 2 rfl) (by kernel_rfl)) (Z1m (v := (.bool true)) rfl) ?_
   exact ⟨by rw [Zba hno h21 b24]; rfl, H27.upd 0 rfl [] (fun _ h => h.elim)⟩
  refine Z18 _ b24 ?_
  apply ZL
  apply Zq
  apply ztn
  apply ZU
  refine zwi 33 ((i : Int) + 1) ?_
  refine wv 12 (.int .i64 ((i : Int) + 1)) ?_
  apply ZQ
  refine Zw ?_ _ ⟨(i + 1), rfl, (by omega), (Za2 hno h21 b24), H23, rfl⟩ (by omega)
  exact zs
 have g29 := of_decide_eq_false b14
 refine Z18 _ b14 ?_
 apply zxb
 apply ztn
 apply zsl
 refine wv 34 (.agg ⟨(Z5A)⟩) ?_
 refine zwd fun Kq kq => ?_
 refine Z2k (Z5A) H11 2 ?_
 intro w32 H33
 refine kq _ _ ?_
 clear kq Kq
 refine wv 5 (.bool false) ?_
 apply znt
 apply ZA
 refine Z9g rfl (Z0i (vs := (Z5A)) rfl (by kernel_rfl) (by kernel_rfl) (by exact Nat.le_of_ble_eq_true (by kernel_rfl)) (H33.at 2 rfl) (by kernel_rfl)) (Z1m (v := (.bool false)) rfl) ?_
 exact ⟨by rw [Za0 hno (show L.length ≤ i by omega)]; kernel_rfl, H33.upd 0 rfl [] (fun _ h => h.elim)⟩
section
variable {P : Program} (w : World)
end
section
variable {α : Type} {enc : α → List Value} {sz : Nat} {w : World} {xs : List α}
theorem Zcc {w : World} {e size n base : Nat} {v : Value} {xs : List Value} (h : w.ownsRow base e size v n xs) : (ZH e size v n xs).ok w ∧ ∀ b, v.ownBlock = some b → base ≤ b := by
 refine ⟨⟨h.1, ?_⟩, fun b hb => ?_⟩
 ·rcases h.2 with hn | ⟨g, cap, cur, hv, hb, rest⟩
  ·exact .inl hn
  ·exact .inr ⟨g, cap, cur, hv, Nat.zero_le _, rest⟩
 ·rcases h.2 with ⟨rfl, _⟩ | ⟨g, cap, cur, rfl, hg, _⟩
  ·simp [Value.ownBlock] at hb
  ·simp [Value.ownBlock] at hb; omega
theorem ListAt.take3 {a : Option Addr} {n c k : Nat} (h : ListAt enc sz w (.slice a n c) xs) (hk : k ≤ n) (_h0 : 0 < sz) (_hs : ∀ x, (enc x).length = sz) : ListAt enc sz w (.slice a k k) (xs.take k) := by
 have hc := ListAt.cap h
 rcases h with ⟨a', c', e, rfl, hc, ha⟩ | ⟨hp, b, o, c', e, ⟨h1, h2⟩, h⟩
 ·simp only [Value.slice.injEq] at e
  obtain ⟨rfl, rfl, rfl⟩ := e
  obtain rfl : k = 0 := by omega
  exact .inl ⟨_, _, rfl, by simp, by omega, fun _ => rfl⟩
 ·simp only [Value.slice.injEq] at e
  obtain ⟨rfl, rfl, rfl⟩ := e
  have hl : (xs.take k).length = k := by rw [List.length_take]; omega
  by_cases hz : k = 0
  ·subst hz; exact .inl ⟨_, _, rfl, by simp, by omega, fun _ => rfl⟩
  ·refine .inr ⟨by omega, b, o, _, by rw [hl], ⟨by omega, by omega⟩, fun i hi => ?_⟩
   rw [List.getElem_take]
   exact h i (by rw [hl] at hi; omega)
end
section
variable {P : Program} {n : Nat} {f : Nat → Value} {w w' : World} {dst : Option Tmp} {ty : TypeId} {pos : String} {aft : Array Edge} {gd : Option (Nat × Bool)} {w0 : World} {G : List Ck} {K : Act → World → Prop} {Q : Exit → Act → World → Prop}
theorem Zb8 {T E : TypeId} {x y z : Operand} {a : Option Addr} {len cap : Nat} {k k' : IntKind} {i j : Int} {q : Nat} (hT : P.underlying T = some (.slice E)) (hE : (P.info? E).isSome = true) (hx : ev n f x = .slice a len cap) (hy : ev n f y = .int k i) (hz : ev n f z = .int k' j) (h1 : i = (q : Int)) (h2 : j = (q : Int)) (h3 : q ≤ cap) :
  (execOp (ev n f) ⟨dst, .slice T x none (some y) (some z), ty, pos, aft, gd⟩).run P w = .ok (.value (.slice a q q)) w := by
 obtain ⟨inf, hi⟩ := Option.isSome_iff_exists.1 hE
 subst h1 h2
 have e0 : a.map (·.add (0 * inf.size)) = a := by cases a <;> simp [Addr.add]
 have : (Instr.slice T (.slice a len cap) none (some (.int k (q : Int))) (some (.int k' (q : Int)))).run P w = .ok (.slice a q q) w := by
  simp [Instr.slice, run_underlying hT, Instr.sliceBounds, Instr.sliceBound, asIntOf, h3, Result.andThen, sizeOf, typeInfo, hi]
  intro _
  cases a <;> simp [Addr.add]
 simp only [execOp, Instr.sliceAt, Option.map, hx, hy, hz]
 simp [run_underlying hT, this, Result.andThen]
theorem Z7V {α : Type} {enc : α → List Value} {T e : TypeId} {size bytes : Nat} (hR : Z4X P T e size bytes = true) (hs : ∀ x, (enc x).length = size) (h1 : ∀ x, (enc x).all (·.oneCell') = true) {a : Option Addr} {u : Value} {k : Nat} {xs ys : List α} (hv : ListAt enc size w (.slice a k k) xs) (hk : xs.length = k) (hu : ListAt enc size w u ys) (hp : 0 < ys.length) (hb : (k + ys.length) * bytes ≤ 140737488355328) (h63 : k + ys.length ≤ 140737488355328) :
  ∃ v' w', (Builtin.append_ #[T, T] ty #[.slice a k k, u]).run P w = .ok v' w' ∧ (ZH e size v' (k + ys.length) ((xs ++ ys).flatMap enc)).ok w' ∧ w.grownBy w' none ∧ ∀ b, v'.ownBlock = some b → w.heap.size ≤ b := by
 obtain ⟨i, z, ht, hi, hz, hsz, hby, hzs, h0⟩ := Z3N hR
 obtain ⟨b2, o2, c2, rfl, hc2⟩ := hu.cells hs h0 hp
 have grow := fun (ad : Addr) (olds : List Value) (hlo : olds.length = k * size) (holds : ∀ j u, olds[j]? = some u → w.cell? (ad.add j) = some u) =>
  run_append_arg_grows (P := P) w T ty e i z size bytes ht hi hz hsz hby hzs h0 ad k k olds hlo holds ⟨b2, o2, none⟩ ys.length c2 (ys.flatMap enc) (Z1u enc size hs ys) hc2 (by omega) (by unfold maxLen; omega) hb
 have fin : ∀ (ad : Addr), a = some ad → (∀ j u, (xs.flatMap enc)[j]? = some u → w.cell? (ad.add j) = some u) → _ := fun ad ha holds => grow ad (xs.flatMap enc) (by rw [Z1u enc size hs, hk]) holds
 have done : ∀ v' w', w'.ownsRow w.heap.size e size v' (k + ys.length) (xs.flatMap enc ++ ys.flatMap enc) → (ZH e size v' (k + ys.length) ((xs ++ ys).flatMap enc)).ok w' ∧ ∀ b, v'.ownBlock = some b → w.heap.size ≤ b := fun v' w' h => by
  rw [← List.flatMap_append] at h
  exact Zcc h
 cases a with
 | some ad =>
  by_cases hz0 : 0 < xs.length
  ·obtain ⟨b, o, c, he, hc⟩ := hv.cells hs h0 hz0
   simp only [Value.slice.injEq, Option.some.injEq] at he
   obtain ⟨rfl, _, _⟩ := he
   obtain ⟨v', w', hr, ho, hg⟩ := fin _ rfl hc
   exact ⟨v', w', hr, (done v' w' ho).1, hg, (done v' w' ho).2⟩
  ·obtain rfl : xs = [] := List.eq_nil_of_length_eq_zero (by omega)
   obtain ⟨v', w', hr, ho, hg⟩ := fin _ rfl (by simp)
   exact ⟨v', w', hr, (done v' w' ho).1, hg, (done v' w' ho).2⟩
 | none =>
  obtain rfl : xs = [] := by
   rcases hv with ⟨_, _, _, h, _⟩ | ⟨_, _, _, _, e, _⟩
   ·exact h
   ·simp at e
  have hk0 : k = 0 := by simpa using hk.symm
  subst hk0
  obtain ⟨v', w', hr, ho, hg, hn⟩ := Z40 (ty := ty) hR hs h1 (World.ownsRow_nil w 0 e size) (u := .slice (some ⟨b2, o2, none⟩) ys.length c2) hu (by simpa using hb) (by simpa using h63)
  simp only [Nat.zero_add, List.nil_append] at ho ⊢
  exact ⟨v', w', hr, ho, hg, fun b hb => (hn b hb).resolve_left (by simp [Value.ownBlock])⟩
theorem Z7e {α : Type} {enc : α → List Value} {T e : TypeId} {size bytes : Nat} {x y : Operand} {d : Nat} (hd : dst = some d) (H : Sat w0 G w) (hR : Z4X P T e size bytes = true) (hs : ∀ x, (enc x).length = size) (h1 : ∀ x, (enc x).all (·.oneCell') = true) {a : Option Addr} {u : Value} {k : Nat} {xs ys : List α} (hv : ListAt enc size w (.slice a k k) xs) (hk : xs.length = k) (hu : ListAt enc size w u ys) (hp : 0 < ys.length)
  (hx : ev n f x = .slice a k k) (hy : ev n f y = u) (hb : (k + ys.length) * bytes ≤ 140737488355328) (h63 : k + ys.length ≤ 140737488355328)
  (kk : ∀ v' w', Sat w0 (G ++ [ZH e size v' (xs ++ ys).length ((xs ++ ys).flatMap enc)]) w' → K (fr n (upd f d v')) w') : WO P ⟨dst, .call { callee := .builtin .append, args := #[x, y], argTypes := #[T, T] }, ty, pos, aft, gd⟩ K Q n f w := by
 obtain ⟨v', w', hr, ho, hg, hn⟩ := Z7V (ty := ty) hR hs h1 hv hk hu hp hb h63
 rw [show k + ys.length = (xs ++ ys).length by rw [List.length_append, hk]] at ho
 exact Z4i hd (Z4j hx hy hr) (kk v' w' (H.add (Z3t hg) (fun b hb => hg.block b hb (by simp)) ho hn))
end
end Go.Proofs.YtoaifondpohniaaGreat
