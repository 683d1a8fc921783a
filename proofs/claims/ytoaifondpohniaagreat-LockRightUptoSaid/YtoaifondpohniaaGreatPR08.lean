/- WHAT IS PROVED: contracts and plain laws of PBook, ShaM, ShaS. Conditions: stated with each. -/
import Derived.Test.YtoaifondpohniaaGreatPR03
import Derived.Test.YtoaifondpohniaaGreatPR04
import Derived.Test.YtoaifondpohniaaGreatPR05
import Derived.Test.YtoaifondpohniaaGreatPR06
set_option maxHeartbeats 4000000
set_option maxRecDepth 100000
namespace Go.Proofs.YtoaifondpohniaaGreat
open Go.RowKit
abbrev Z6L (p0 : Nat) : List Value := ([(.map (some p0))] : List Value)
abbrev Zbf (p0 : Nat) (p1 : List Signed) : Ck := Z3d p0 Z0e (Value.int .i64) (Z04 p1)
abbrev Z3F (p0 : Int) (p1 : Int) : List Value := ([(.int .i64 p0), (.int .i64 p1)] : List Value)
abbrev Z1E (p0 : Int) (p1 : Value) : List Value := ([(.int .i64 p0), p1] : List Value)
abbrev Z8Q : List Value := ([(.int .i64 (0)), (.int .i64 (0))] : List Value)
theorem ZcI {α : Type} (enc : α → Value) (o : Option α) (z : α) : (o.map enc).getD (enc z) = enc (o.getD z) := by cases o <;> rfl
def ZcJ (b mb : Nat) (L : List Signed) (tv : Value) (tx : List UInt8) : List Ck := [Z0 b 110 [.map (some mb)], Z3d mb Z0e (Value.int .i64) (Z04 L), ZH 5 1 tv tx.length (tx.flatMap ZN)]
theorem Z31 (w : World) (b mb : Nat) (L : List Signed) (tv : Value) (tx : List UInt8) (hB : (Z0c (ZcJ b mb L tv tx)).ok w) (_hl : L.length ≤ 1000000) (p : Int) :
  Calls Tryz.prog 12 #[(.pointer (some ⟨b, 0, none⟩)), (.int .i64 (p)), tv] w fun e w' => e = .returned (.agg #[.int .i64 p, .int .i64 (Zu (Zk L (⟨p, tx⟩ : Signed)) (⟨p, tx⟩ : Signed))]) ∧ Sat w [Z0 b 110 [.map (some mb)], Z3d mb Z0e (Value.int .i64) (Z04 (Zk L (⟨p, tx⟩ : Signed))), ZH 5 1 tv tx.length (tx.flatMap ZN), Z6 w (Z0c (ZcJ b mb L tv tx)).fp] w' := by
 have H := Sat.start (ZcJ b mb L tv tx) hB
 have hmk : (ZV (Z04 L) (⟨p, tx⟩ : Signed)).getD 0 = Zu L (⟨p, tx⟩ : Signed) := by rw [Z3I]; rfl
 have hml := Zau L
 refine Zp Tryz.func12 rfl 38 rfl (Nat.le_of_ble_eq_true rfl) ?_
 apply zsl
 refine zwd fun Kq kq => ?_
 refine zda (Z8Q) H ?_
 intro b2 w3 H4
 refine kq _ _ ?_
 clear kq Kq
 apply Z1y
 refine wv 8 (.int .i64 (p)) ?_
 refine wv 9 (tv) ?_
 refine wv 10 (Z2O tx) ?_ (hr := Z21 (e := 5) (s := tx) (by kernel_rfl) (by kernel_rfl) (by kernel_rfl) rfl (Z25 (ListAt.row (e := 5) (enc := ZN) (sz := 1) (v := tv) (n := tx.length) (xs := tx) ZE (by decide) (H4.at 2 rfl))))
 refine wv 11 (.agg ⟨(Z1E p (Z2O tx))⟩) ?_
 refine zwd fun Kq kq => ?_
 refine zda ([(.int .i64 (0)), (Z2O ([] : List UInt8))] : List Value) H4 ?_
 intro b6 w7 H8
 refine kq _ _ ?_
 clear kq Kq
 refine zwd fun Kq kq => ?_
 refine Z2q (vs := (Z1E p (Z2O tx))) rfl H8 5 rfl rfl rfl rfl (by kernel_rfl) (Nat.le_of_ble_eq_true (by kernel_rfl)) (Nat.le_of_ble_eq_true (by kernel_rfl)) (by kernel_rfl) ?_
 intro w10 H11
 refine kq _ _ ?_
 clear kq Kq
 apply znt
 apply Zt
 apply Zt
 refine zqs H11 ?_
 refine qv 12 (pt b 0) ?_
 refine qv 13 (pt b 0) ?_
 refine qv 14 (pt b 0) ?_
 refine qv 15 (.map (some mb)) ?_ (hr := fun _ H' => (Z2 rfl (by kernel_rfl) (H'.cell 0 rfl rfl)))
 refine qv 16 (.agg ⟨(Z1E p (Z2O tx))⟩) ?_ (hr := fun _ H' => (Zc (vs := (Z1E p (Z2O tx))) rfl (by kernel_rfl) (by kernel_rfl) (by exact Nat.le_of_ble_eq_true (by kernel_rfl)) (H'.at 5 rfl) (by kernel_rfl)))
 refine qv 17 (.int .i64 ((ZV (Z04 L) (⟨p, tx⟩ : Signed)).getD 0)) ?_ (hr := fun _ H' => (Z3A (kt := 107) (et := 3) Z4Y (by kernel_rfl) (fun w => by kernel_rfl) rfl (⟨p, tx⟩ : Signed) rfl (H'.at 1 rfl) (ZcI (Value.int .i64) _ _)))
 refine qv 18 (.bool (decide (((ZV (Z04 L) (⟨p, tx⟩ : Signed)).getD 0) = 0))) ?_
 refine Z0S ?_
 intro w13 H14
 apply ztn
 refine (Zl (decide (((ZV (Z04 L) (⟨p, tx⟩ : Signed)).getD 0) = 0))).elim (fun b15 => ?_) (fun b15 => ?_)
 ·have g16 := of_decide_eq_true b15
  refine Z1o _ b15 ?_
  refine Z00 H14 [Z0 b 110 (Z6L mb), ZH 5 1 tv tx.length (tx.flatMap ZN), Z6 w (Z0c (ZcJ b mb L tv tx)).fp, Z0 b2 29 (Z8Q), Z0 b6 107 (Z1E p (Z2O tx))] 12 rfl (by kernel_rfl) (fun Hx => (Hx.pk [0, 2, 3, 4, 5])) ?_
  intro w18 H19 S20
  refine hv0 0 S20 19 (pt b 0) ?_
  refine hv0 1 S20 20 (pt b 0) ?_
  refine hv0 2 S20 21 (pt b 0) ?_
  refine hv0 3 S20 22 (.map (some mb)) ?_ (he := fun _ H' => (Z2 rfl (by kernel_rfl) (H'.cell 0 rfl rfl)))
  refine hv0 4 S20 23 (.agg ⟨(Z1E p (Z2O tx))⟩) ?_ (he := fun _ H' => (Zc (vs := (Z1E p (Z2O tx))) rfl (by kernel_rfl) (by kernel_rfl) (by exact Nat.le_of_ble_eq_true (by kernel_rfl)) (H'.at 4 rfl) (by kernel_rfl)))
  refine hv0 5 S20 24 (pt b 0) ?_
  refine hv0 6 S20 25 (pt b 0) ?_
  refine hv0 7 S20 26 (pt b 0) ?_
  refine hv0 8 S20 27 (.map (some mb)) ?_ (he := fun _ H' => (Z2 rfl (by kernel_rfl) (H'.cell 0 rfl rfl)))
  refine Z09 9 fun Kq kq => ?_
  refine ZbN (d := 28) (v := (.int .i64 ((((Z04 L)).length : Int)))) rfl (e_len (kt := 107) (et := 3) (by kernel_rfl) (H19.at 1 rfl) rfl) ?_
  have S22 := H19.pk [0, 2, 3, 4, 5]
  refine kq _ _ S22 ?_
  clear kq Kq
  refine hv0 10 S22 29 (.int .i64 ((((Z04 L)).length : Int) + 1)) ?_ (he := fun _ H' => (Z0I (z := (((Z04 L)).length : Int) + 1) (by kernel_rfl) (IntWalk.i64_in _ (by omega))))
  refine Z09 11 fun Kq kq => ?_
  refine Z84 (kt := 107) (et := 3) rfl H19 1 rfl Z4Y (by kernel_rfl) rfl (⟨p, tx⟩ : Signed) rfl ((((Z04 L)).length : Int) + 1) rfl ?_
  intro w24 H25
  have S26 := H25.pk [0, 2, 3, 4, 5]
  refine kq _ _ S26 ?_
  clear kq Kq
  refine zhf ?_
  apply ztn
  apply Zt
  refine Z00 H25 [Z0 b 110 (Z6L mb), Z3d mb Z0e (Value.int .i64) (Z4d (Z04 L) (⟨p, tx⟩ : Signed) ((((Z04 L)).length : Int) + 1)), ZH 5 1 tv tx.length (tx.flatMap ZN), Z6 w (Z0c (ZcJ b mb L tv tx)).fp, Z0 b6 107 (Z1E p (Z2O tx))] 9 rfl (by kernel_rfl) (fun Hx => (Hx.pk [0, 1, 2, 3, 5])) ?_
  intro w27 H28 S29
  refine hv0 0 S29 30 (.int .i64 (p)) ?_
  refine hv0 1 S29 31 (pt b 0) ?_
  refine hv0 2 S29 32 (pt b 0) ?_
  refine hv0 3 S29 33 (pt b 0) ?_
  refine hv0 4 S29 34 (.map (some mb)) ?_ (he := fun _ H' => (Z2 rfl (by kernel_rfl) (H'.cell 0 rfl rfl)))
  refine hv0 5 S29 35 (.agg ⟨(Z1E p (Z2O tx))⟩) ?_ (he := fun _ H' => (Zc (vs := (Z1E p (Z2O tx))) rfl (by kernel_rfl) (by kernel_rfl) (by exact Nat.le_of_ble_eq_true (by kernel_rfl)) (H'.at 4 rfl) (by kernel_rfl)))
  refine hv0 6 S29 36 (.int .i64 ((ZV (Z4d (Z04 L) (⟨p, tx⟩ : Signed) ((((Z04 L)).length : Int) + 1)) (⟨p, tx⟩ : Signed)).getD 0)) ?_ (he := fun _ H' => (Z3A (kt := 107) (et := 3) Z4Y (by kernel_rfl) (fun w => by kernel_rfl) rfl (⟨p, tx⟩ : Signed) rfl (H'.at 1 rfl) (ZcI (Value.int .i64) _ _)))
  refine Z1D 7 rfl (by kernel_rfl) (by kernel_rfl) (by kernel_rfl) (fun _ _ _ h => h) S29 (Zs rfl) (d := 37) (v := (.agg ⟨(Z3F p ((ZV (Z4d (Z04 L) (⟨p, tx⟩ : Signed) ((((Z04 L)).length : Int) + 1)) (⟨p, tx⟩ : Signed)).getD 0))⟩)) rfl (fun _ H' => (by kernel_rfl)) ?_
  refine Z09 8 fun Kq kq => ?_
  refine Z2q (vs := (Z3F p ((ZV (Z4d (Z04 L) (⟨p, tx⟩ : Signed) ((((Z04 L)).length : Int) + 1)) (⟨p, tx⟩ : Signed)).getD 0))) rfl H28 4 rfl rfl rfl rfl (by kernel_rfl) (Nat.le_of_ble_eq_true (by kernel_rfl)) (Nat.le_of_ble_eq_true (by kernel_rfl)) (by kernel_rfl) ?_
  intro w31 H32
  have S34 := H32.pk [0, 1, 2, 3, 5]
  refine kq _ _ S34 ?_
  clear kq Kq
  refine zhf ?_
  apply ztn
  apply ZA
  refine Z6E rfl (Z0i (vs := (Z3F p ((ZV (Z4d (Z04 L) (⟨p, tx⟩ : Signed) ((((Z04 L)).length : Int) + 1)) (⟨p, tx⟩ : Signed)).getD 0))) rfl (by kernel_rfl) (by kernel_rfl) (by exact Nat.le_of_ble_eq_true (by kernel_rfl)) (H32.at 4 rfl) (by kernel_rfl)) ?_
  have hm : (⟨p, tx⟩ : Signed) ∉ L := fun hc => by
   have q := of_decide_eq_true b15
   rw [hmk] at q
   have := (Z2n hc).1
   omega
  have hs : Zk L (⟨p, tx⟩ : Signed) = L ++ [(⟨p, tx⟩ : Signed)] := by unfold Zk; rw [if_neg hm]
  have hp : (Z4d (Z04 L) (⟨p, tx⟩ : Signed) ((((Z04 L)).length : Int) + 1)) = Z04 (L ++ [(⟨p, tx⟩ : Signed)]) := by rw [hml]; exact ZaE L _ hm
  exact ⟨by rw [hs, hp, Z3I]; rfl, by rw [hs, ← hp]; exact H32.pk [0, 1, 2, 3]⟩
 have g35 := of_decide_eq_false b15
 refine Z18 _ b15 ?_
 apply ZL
 apply ztn
 apply Zt
 refine Z00 H14 [Z0 b 110 (Z6L mb), (Zbf mb L), ZH 5 1 tv tx.length (tx.flatMap ZN), Z6 w (Z0c (ZcJ b mb L tv tx)).fp, Z0 b6 107 (Z1E p (Z2O tx))] 9 rfl (by kernel_rfl) (fun Hx => (Hx.pk [0, 1, 2, 3, 5])) ?_
 intro w37 H38 S39
 refine hv0 0 S39 30 (.int .i64 (p)) ?_
 refine hv0 1 S39 31 (pt b 0) ?_
 refine hv0 2 S39 32 (pt b 0) ?_
 refine hv0 3 S39 33 (pt b 0) ?_
 refine hv0 4 S39 34 (.map (some mb)) ?_ (he := fun _ H' => (Z2 rfl (by kernel_rfl) (H'.cell 0 rfl rfl)))
 refine hv0 5 S39 35 (.agg ⟨(Z1E p (Z2O tx))⟩) ?_ (he := fun _ H' => (Zc (vs := (Z1E p (Z2O tx))) rfl (by kernel_rfl) (by kernel_rfl) (by exact Nat.le_of_ble_eq_true (by kernel_rfl)) (H'.at 4 rfl) (by kernel_rfl)))
 refine hv0 6 S39 36 (.int .i64 ((ZV (Z04 L) (⟨p, tx⟩ : Signed)).getD 0)) ?_ (he := fun _ H' => (Z3A (kt := 107) (et := 3) Z4Y (by kernel_rfl) (fun w => by kernel_rfl) rfl (⟨p, tx⟩ : Signed) rfl (H'.at 1 rfl) (ZcI (Value.int .i64) _ _)))
 refine Z1D 7 rfl (by kernel_rfl) (by kernel_rfl) (by kernel_rfl) (fun _ _ _ h => h) S39 (Zs rfl) (d := 37) (v := (.agg ⟨(Z3F p ((ZV (Z04 L) (⟨p, tx⟩ : Signed)).getD 0))⟩)) rfl (fun _ H' => (by kernel_rfl)) ?_
 refine Z09 8 fun Kq kq => ?_
 refine Z2q (vs := (Z3F p ((ZV (Z04 L) (⟨p, tx⟩ : Signed)).getD 0))) rfl H38 4 rfl rfl rfl rfl (by kernel_rfl) (Nat.le_of_ble_eq_true (by kernel_rfl)) (Nat.le_of_ble_eq_true (by kernel_rfl)) (by kernel_rfl) ?_
 intro w41 H42
 have S44 := H42.pk [0, 1, 2, 3, 5]
 refine kq _ _ S44 ?_
 clear kq Kq
 refine zhf ?_
 apply ztn
 apply ZA
 refine Z6E rfl (Z0i (vs := (Z3F p ((ZV (Z04 L) (⟨p, tx⟩ : Signed)).getD 0))) rfl (by kernel_rfl) (by kernel_rfl) (by exact Nat.le_of_ble_eq_true (by kernel_rfl)) (H42.at 4 rfl) (by kernel_rfl)) ?_
 have hm : (⟨p, tx⟩ : Signed) ∈ L := by
  refine Decidable.not_not.1 fun hc => ?_
  have q := of_decide_eq_false b15
  rw [hmk, Z8l hc] at q
  exact q rfl
 exact ⟨by rw [Z2I hm, ← hmk], by rw [Z2I hm]; exact H42.pk [0, 1, 2, 3]⟩
def Z0Z (k : IntKind) (g T n : Nat) (A : List Int) : Ck where
 fp b := b = g
 ok w := A.length = n ∧ w.heap[g]? = some (.cells ⟨A.map (Value.int k)⟩ T (0, 0))
 stay h hb := ⟨h.1, (hb g rfl).trans h.2⟩
 lt h _ hk := hk ▸ Z0D h.2
section
variable {k : IntKind} {g T n : Nat} {A : List Int} {w w0 w' : World} {G : List Ck}
theorem Z4z (h : (Z0Z k g T n A).ok w) : A.length = n := h.1
theorem Z07 (h : (Z0Z k g T n A).ok w) {i o : Nat} (hi : i < n) (ho : o = i) : w.cell? ⟨g, o, none⟩ = some (.int k (A.getD i 0)) := by
 subst ho
 rw [Z19 h.2]
 simp [List.getD_eq_getElem?_getD, List.getElem?_eq_getElem (show o < A.length by rw [h.1]; exact hi)]
theorem ZbE (h : (Z0Z k g T n A).ok w) : Z2Q w ⟨g, 0, none⟩ (A.map (Value.int k)) := fun j v hj => by
 rw [Addr.add_lit, Z19 h.2]; simpa using hj
theorem Sat.toW (H : Sat w0 G w) (i : Nat) (k : IntKind) (A : List Int) (hi : G[i]? = some (Z0 g T (A.map (Value.int k)))) (hn : A.length = n) : Sat w0 (G.set i (Z0Z k g T n A)) w :=
 H.set i hi ⟨rfl, rfl, rfl, Nat.le_refl _⟩ (fun _ _ _ => rfl) ⟨hn, H.at i hi⟩ (fun _b hb => .inl hb)
theorem Sat.offW (H : Sat w0 G w) (i : Nat) (hi : G[i]? = some (Z0Z k g T n A)) : Sat w0 (G.set i (Z0 g T (A.map (Value.int k)))) w :=
 H.set i hi ⟨rfl, rfl, rfl, Nat.le_refl _⟩ (fun _ _ _ => rfl) (H.at i hi).2 (fun _b hb => .inl hb)
end
section
variable {P : Program} {n : Nat} {f : Nat → Value} {w w0 : World} {dst : Option Tmp} {ty : TypeId} {pos : String} {aft : Array Edge} {gd : Option (Nat × Bool)} {K : Act → World → Prop} {Q : Exit → Act → World → Prop} {G : List Ck}
theorem Z35 (k : IntKind) {T TA m : Nat} {A : List Int} {g i : Nat} {x y : Operand} {z : Int} {o : Nat} (hd : dst = none) (H : Sat w0 G w) (j : Nat) (hj : G[j]? = some (Z0Z k g TA m A)) (hx : ev n f x = .pointer (some ⟨g, o, none⟩)) (hy : ev n f y = .int k z) (hN : P.cellsOf T = 1) (ho : o = i) (hi : i < m)
  (kk : ∀ w', Sat w0 (G.set j (Z0Z k g TA m (A.set i z))) w' → K (fr n f) w') : WO P ⟨dst, .store T x y, ty, pos, aft, gd⟩ K Q n f w := by
 have h := H.at j hj
 subst ho
 have hil : o < A.length := by rw [h.1]; exact hi
 obtain ⟨w', hr, hb, he, hk⟩ := Z6D (P := P) (dst := dst) (ty := ty) (pos := pos) (aft := aft) (gd := gd) (vs := [.int k z]) hx hy rfl hN (by simp) h.2 (by simp; omega) (fun v hv => by rw [List.mem_singleton.1 hv]; rfl)
 refine Z7i hd hr (kk w' (H.set j hj he (fun b _ hne => hk b hne) ⟨by simp [h.1], ?_⟩ (fun b hb => .inl hb)))
 have e : Z1g (A.map (Value.int k)) o [Value.int k z] = (A.set o z).map (Value.int k) := by
  rw [List.set_eq_take_append_cons_drop, if_pos hil]
  simp [Z1g]
 rw [← e]; exact hb
theorem Z2U (k : IntKind) {T TA m : Nat} {A B : List Int} {g : Nat} {x y : Operand} {u : Value} (hd : dst = none) (H : Sat w0 G w) (j : Nat) (hj : G[j]? = some (Z0Z k g TA m A)) (hx : ev n f x = .pointer (some ⟨g, 0, none⟩)) (hy : ev n f y = u) (hu : u.cells = ⟨B.map (Value.int k)⟩) (hN : P.cellsOf T = m) (hm : 0 < m) (hB : B.length = m)
  (kk : ∀ w', Sat w0 (G.set j (Z0Z k g TA m B)) w' → K (fr n f) w') : WO P ⟨dst, .store T x y, ty, pos, aft, gd⟩ K Q n f w := by
 have h := H.at j hj
 obtain ⟨w', hr, hb, he, hk⟩ := Z6D (P := P) (dst := dst) (ty := ty) (pos := pos) (aft := aft) (gd := gd) (vs := B.map (Value.int k)) hx hy hu (by rw [hN]; simp [hB]) (by simp [hB]; omega) h.2 (by simp [hB, h.1]) (fun v hv => by obtain ⟨z, _, rfl⟩ := List.mem_map.1 hv; rfl)
 refine Z7i hd hr (kk w' (H.set j hj he (fun b _ hne => hk b hne) ⟨hB, ?_⟩ (fun b hb => .inl hb)))
 have e : Z1g (A.map (Value.int k)) 0 (B.map (Value.int k)) = B.map (Value.int k) := by simp [Z1g, hB, h.1]
 rw [← e]; exact hb
theorem Z8M {k : IntKind} {T TA m g : Nat} {A : List Int} {x : Operand} (hx : ev n f x = .pointer (some ⟨g, 0, none⟩)) (hT : Z6z P T = true) (hN : P.cellsOf T = m) (hm : 0 < m) (h : (Z0Z k g TA m A).ok w) :
  (execOp (ev n f) ⟨dst, .load T x, ty, pos, aft, gd⟩).run P w = .ok (.value (.agg ⟨A.map (Value.int k)⟩)) w :=
 Z0f hx hT (by rw [hN]; simp [h.1]) (by simp [h.1]; omega) (ZbE h)
theorem Z4P {v : Value} {s : List UInt8} (h : ListAt ZN 1 w v s) (h0 : 0 < s.length) : ∃ b o c, v = .slice (some ⟨b, o, none⟩) s.length c := by
 obtain ⟨b, o, c, e, _⟩ := SliceOf.some h h0
 exact ⟨b, o, c, e⟩
theorem Z4r {b o c i p m : Nat} {s : List UInt8} (h : ListAt ZN 1 w (.slice (some ⟨b, o, none⟩) m c) s) (hi : i < s.length) (hp : p = o + i) : w.cell? ⟨b, p, none⟩ = some (.int .u8 ((s.getD i 0).toNat : Int)) := by
 obtain ⟨b', o', c', e, _, hr⟩ := SliceOf.some h (by omega)
 simp only [Value.slice.injEq, Option.some.injEq, Addr.mk.injEq] at e
 obtain ⟨⟨rfl, rfl, _⟩, _, _⟩ := e
 have := hr i hi 0 _ rfl
 rw [Addr.add_lit] at this
 rw [hp, show o + i = o + i * 1 + 0 by omega, this, List.getD_eq_getElem?_getD, List.getElem?_eq_getElem hi]; rfl
end
section
variable {α : Type} {enc : α → List Value} {sz : Nat} {w : World} {xs : List α}
theorem ListAt.dropG {a : Option Addr} {n c k : Nat} (h : ListAt enc sz w (.slice a n c) xs) (hk : k ≤ n) : ListAt enc sz w (.slice (if c = k then a else a.map (·.add (k * sz))) (n - k) (c - k)) (xs.drop k) := by
 rcases h with ⟨a', c', e, rfl, hc, ha⟩ | ⟨h0, b', o', c', e, ⟨h1, h2⟩, h⟩
 ·simp only [Value.slice.injEq] at e
  obtain ⟨rfl, rfl, rfl⟩ := e
  obtain rfl : k = 0 := by omega
  refine .inl ⟨_, _, rfl, by simp, by omega, fun q => ?_⟩
  by_cases h0 : c = 0
  ·omega
  ·rw [if_neg h0] at q
   cases a with
   | none => have := ha rfl; omega
   | some ad => cases q
 ·simp only [Value.slice.injEq] at e
  obtain ⟨rfl, rfl, rfl⟩ := e
  have hl : (xs.drop k).length = xs.length - k := List.length_drop
  by_cases hz : k = xs.length
  ·subst hz
   refine .inl ⟨_, c - xs.length, by rw [Nat.sub_self], by simp, by omega, fun q => ?_⟩
   split at q
   ·cases q
   ·cases q
  ·refine .inr ⟨by omega, b', o' + k * sz, c - k, ?_, ⟨by rw [hl]; omega, by omega⟩, fun i hi => ?_⟩
   ·rw [hl, if_neg (by omega), Option.map_some, Addr.add_lit]
   ·rw [List.getElem_drop]
    have := h (k + i) (by rw [hl] at hi; omega)
    rwa [show o' + k * sz + i * sz = o' + (k + i) * sz by rw [Nat.add_mul]; omega]
end
section
variable {P : Program} {n : Nat} {f : Nat → Value} {w : World} {dst : Option Tmp} {ty : TypeId} {pos : String} {aft : Array Edge} {gd : Option (Nat × Bool)}
theorem Z3B {T E : TypeId} {x y : Operand} {a : Option Addr} {len cap sz : Nat} {k : IntKind} {z : Int} {q : Nat} (hT : P.underlying T = some (.slice E)) (hE : (P.info? E).map (·.size) = some sz) (hx : ev n f x = .slice a len cap) (hy : ev n f y = .int k z) (h1 : z = (q : Int)) (h2 : q ≤ len) :
  (execOp (ev n f) ⟨dst, .slice T x (some y) none none, ty, pos, aft, gd⟩).run P w = .ok (.value (.slice (if cap = q then a else a.map (·.add (q * sz))) (len - q) (cap - q))) w := by
 cases hi : P.info? E with
 | none => rw [hi] at hE; cases hE
 | some inf =>
  rw [hi] at hE
  simp only [Option.map_some, Option.some.injEq] at hE
  subst h1 hE
  have : (Instr.slice T (.slice a len cap) (some (.int k (q : Int))) none none).run P w = .ok (.slice (if cap = q then a else a.map (·.add (q * inf.size))) (len - q) (cap - q)) w := by
   simp [Instr.slice, run_underlying hT, Instr.sliceBounds, Instr.sliceBound, asIntOf, h2, Result.andThen, sizeOf, typeInfo, hi]
  simp only [execOp, Instr.sliceAt, Option.map, hx, hy]
  simp [run_underlying hT, this, Result.andThen]
  cases a <;> rfl
end
def Z0C (x n : Int) : Int := bOr .u32 (x / 2 ^ (min n.toNat 32)) (Z5f .u32 x (32 - n))
def kR : List Int := ([1116352408, 1899447441, 3049323471, 3921009573, 961987163, 1508970993, 2453635748, 2870763221, 3624381080, 310598401, 607225278, 1426881987, 1925078388, 2162078206, 2614888103, 3248222580, 3835390401, 4022224774, 264347078, 604807628, 770255983, 1249150122, 1555081692, 1996064986, 2554220882, 2821834349, 2952996808, 3210313671, 3336571891, 3584528711, 113926993, 338241895, 666307205, 773529912, 1294757372, 1396182291, 1695183700, 1986661051, 2177026350, 2456956037, 2730485921, 2820302411, 3259730800, 3345764771, 3516065817, 3600352804, 4094571909, 275423344, 430227734, 506948616, 659060556, 883997877, 958139571, 1322822218, 1537002063, 1747873779, 1955562222, 2024104815, 2227730452, 2361852424, 2428436474, 2756734187, 3204031479, 3329325298] : List Int)
def ldS (D : List UInt8) (b : Nat) (i : Nat) (A : List Int) : List Int := (A.set i (bOr .u32 (bOr .u32 (bOr .u32 (Z5f .u32 (IntKind.u32.wrap ((((D.drop ((64 * b) + (4 * i))).getD 0 0).toNat : Int))) 24) (Z5f .u32 (IntKind.u32.wrap ((((D.drop ((64 * b) + (4 * i))).getD 1 0).toNat : Int))) 16)) (Z5f .u32 (IntKind.u32.wrap ((((D.drop ((64 * b) + (4 * i))).getD 2 0).toNat : Int))) 8)) (IntKind.u32.wrap ((((D.drop ((64 * b) + (4 * i))).getD 3 0).toNat : Int)))))
def exS (j : Nat) (B : List Int) : List Int := (B.set (j + 16) (IntKind.u32.wrap ((IntKind.u32.wrap ((IntKind.u32.wrap ((B.getD ((j + 16) - 16) 0) + (Z0q .u32 (Z0q .u32 (Z0C (B.getD ((j + 16) - 15) 0) 7) (Z0C (B.getD ((j + 16) - 15) 0) 18)) ((B.getD ((j + 16) - 15) 0) / 8)))) + (B.getD ((j + 16) - 7) 0))) + (Z0q .u32 (Z0q .u32 (Z0C (B.getD ((j + 16) - 2) 0) 17) (Z0C (B.getD ((j + 16) - 2) 0) 19)) ((B.getD ((j + 16) - 2) 0) / 1024)))))
def ruS (B : List Int) (i : Nat) (V : List Int) : List Int := ([IntKind.u32.wrap ((IntKind.u32.wrap ((IntKind.u32.wrap ((IntKind.u32.wrap ((IntKind.u32.wrap ((V.getD 7 0) + (Z0q .u32 (Z0q .u32 (Z0C (V.getD 4 0) 6) (Z0C (V.getD 4 0) 11)) (Z0C (V.getD 4 0) 25)))) + (Z0q .u32 (Z1G .u32 (V.getD 4 0) (V.getD 5 0)) (Z1G .u32 (Z0q .u32 4294967295 (V.getD 4 0)) (V.getD 6 0))))) + (kR.getD i 0))) + (B.getD i 0))) + (IntKind.u32.wrap ((Z0q .u32 (Z0q .u32 (Z0C (V.getD 0 0) 2) (Z0C (V.getD 0 0) 13)) (Z0C (V.getD 0 0) 22)) + (Z0q .u32 (Z0q .u32 (Z1G .u32 (V.getD 0 0) (V.getD 1 0)) (Z1G .u32 (V.getD 0 0) (V.getD 2 0))) (Z1G .u32 (V.getD 1 0) (V.getD 2 0)))))), V.getD 0 0, V.getD 1 0, V.getD 2 0, IntKind.u32.wrap ((V.getD 3 0) + (IntKind.u32.wrap ((IntKind.u32.wrap ((IntKind.u32.wrap ((IntKind.u32.wrap ((V.getD 7 0) + (Z0q .u32 (Z0q .u32 (Z0C (V.getD 4 0) 6) (Z0C (V.getD 4 0) 11)) (Z0C (V.getD 4 0) 25)))) + (Z0q .u32 (Z1G .u32 (V.getD 4 0) (V.getD 5 0)) (Z1G .u32 (Z0q .u32 4294967295 (V.getD 4 0)) (V.getD 6 0))))) + (kR.getD i 0))) + (B.getD i 0)))), V.getD 4 0, V.getD 5 0, V.getD 6 0] : List Int)
def adS (V : List Int) (i : Nat) (X : List Int) : List Int := (X.set i (IntKind.u32.wrap ((X.getD i 0) + (V.getD i 0))))
def ouS (HH : List Int) (i : Nat) (O : List Int) : List Int := ((((O.set (4 * i) (IntKind.u8.wrap ((HH.getD i 0) / 16777216))).set ((4 * i) + 1) (IntKind.u8.wrap ((HH.getD i 0) / 65536))).set ((4 * i) + 2) (IntKind.u8.wrap ((HH.getD i 0) / 256))).set ((4 * i) + 3) (IntKind.u8.wrap (HH.getD i 0)))
def padN (n : Nat) : Nat := (119 - n % 64) % 64
def padP (s : List UInt8) : List UInt8 := s ++ [128] ++ List.replicate (padN s.length) 0
def Zcr (bits : Int) : Nat → List UInt8
 | 0 => []
 | q + 1 => Zcr bits q ++ [UInt8.ofNat (IntKind.u8.wrap (bits / 2 ^ (min (8 * (7 - (q : Int))).toNat 64))).toNat]
def padR (s : List UInt8) : List UInt8 := padP s ++ Zcr ((s.length : Int) * 8) 8
def wLd (D : List UInt8) (b : Nat) : Nat → List Int
 | 0 => List.replicate 64 0
 | i + 1 => ldS D b i (wLd D b i)
def wEx (A : List Int) : Nat → List Int
 | 0 => A
 | j + 1 => exS j (wEx A j)
def wOf (D : List UInt8) (b : Nat) : List Int := wEx (wLd D b 16) 48
def vRu (B HH : List Int) : Nat → List Int
 | 0 => HH
 | i + 1 => ruS B i (vRu B HH i)
def hAd (V HH : List Int) : Nat → List Int
 | 0 => HH
 | i + 1 => adS V i (hAd V HH i)
def hAll (D : List UInt8) : Nat → List Int
 | 0 => [1779033703, 3144134277, 1013904242, 2773480762, 1359893119, 2600822924, 528734635, 1541459225]
 | b + 1 => hAd (vRu (wOf D b) (hAll D b) 64) (hAll D b) 8
def oOf (HH : List Int) : Nat → List Int
 | 0 => List.replicate 32 0
 | i + 1 => ouS HH i (oOf HH i)
theorem Zbm (bits : Int) (q : Nat) : (Zcr bits q).length = q := by
 induction q with
 | zero => rfl
 | succ q ih => simp [Zcr, ih]
theorem Zbn (bits : Int) (q : Nat) : Zcr bits (q + 1) = Zcr bits q ++ [UInt8.ofNat (IntKind.u8.wrap (bits / 2 ^ (min (8 * (7 - (q : Int))).toNat 64))).toNat] := rfl
theorem Zbx (s : List UInt8) (j : Nat) : s ++ [128] ++ List.replicate j 0 ++ [0] = s ++ [128] ++ List.replicate (j + 1) 0 := by
 rw [List.replicate_succ', List.append_assoc]
theorem Z2z (z : Int) : 0 ≤ IntKind.u8.wrap z ∧ IntKind.u8.wrap z < 256 := by
 rw [Z3h]; omega
theorem Zcv (HH : List Int) (i : Nat) : (oOf HH i).length = 32 := by
 induction i with
 | zero => rfl
 | succ i ih => simp [oOf, ouS, ih]
theorem Z72 {A : List Int} {i : Nat} {z : Int} (h : ∀ x ∈ A, 0 ≤ x ∧ x < 256) (hz : 0 ≤ z ∧ z < 256) : ∀ x ∈ A.set i z, 0 ≤ x ∧ x < 256 := fun x hx => by
 rcases List.mem_or_eq_of_mem_set hx with h1 | rfl
 ·exact h x h1
 ·exact hz
theorem Zcw (HH : List Int) (i : Nat) : ∀ x ∈ oOf HH i, 0 ≤ x ∧ x < 256 := by
 induction i with
 | zero => intro x hx; obtain ⟨_, rfl⟩ := List.mem_replicate.1 hx; omega
 | succ i ih => exact Z72 (Z72 (Z72 (Z72 ih (Z2z _)) (Z2z _)) (Z2z _)) (Z2z _)
theorem Z7Z {L : List Int} (h : ∀ x ∈ L, 0 ≤ x ∧ x < 256) : L.map (Value.int .u8) = (L.map fun z => UInt8.ofNat z.toNat).map Z42 := by
 rw [List.map_map]
 refine List.map_congr_left fun z hz => ?_
 obtain ⟨h0, h1⟩ := h z hz
 simp only [Function.comp, Z42]
 congr 1
 simp; omega
def Za8 (L : List Int) (h : L.length = 32) : Hash := ⟨L.map fun z => UInt8.ofNat z.toNat, by simp [h]⟩
theorem Z7o (L : List Int) (h : L.length = 32) (hr : ∀ x ∈ L, 0 ≤ x ∧ x < 256) : L.map (Value.int .u8) = hc (Za8 L h) := (Z7Z hr).trans (Z8a (Za8 L h)).symm
def ZcE (s : List UInt8) : List Int := oOf (hAll (padR s) ((padR s).length / 64)) 8
theorem Z94 (s : List UInt8) : (ZcE s).length = 32 := Zcv _ _
theorem ZbI (s : List UInt8) : ∀ x ∈ ZcE s, 0 ≤ x ∧ x < 256 := Zcw _ _
def Z1f (s : List UInt8) : Hash := Za8 (ZcE s) (Z94 s)
theorem Z9v (s : List UInt8) : (ZcE s).map (Value.int .u8) = hc (Z1f s) := Z7o (ZcE s) (Z94 s) (ZbI s)
end Go.Proofs.YtoaifondpohniaaGreat
