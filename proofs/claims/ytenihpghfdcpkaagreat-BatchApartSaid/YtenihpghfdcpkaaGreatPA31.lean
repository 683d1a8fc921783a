/- WHAT IS PROVED: contracts and plain laws of TabG, RbD, RefB. Conditions: stated with each. -/
import Derived.Test.YtenihpghfdcpkaaGreatPA05
import Derived.Test.YtenihpghfdcpkaaGreatPA06
import Derived.Test.YtenihpghfdcpkaaGreatPA13
import Derived.Test.YtenihpghfdcpkaaGreatPA18
set_option maxHeartbeats 4000000
set_option maxRecDepth 100000
namespace Go.Proofs.YtenihpghfdcpkaaGreat
open Go.RowKit
abbrev Z5Q (p0 : Int) (p1 : Int) : List Value := ([(.int .i64 p0), (.int .i64 p1)] : List Value)
abbrev Z6Y : List Value := ([(.int .i64 (0)), (.int .i64 (0))] : List Value) ++ hc Zn ++ ([(.int .i64 (0)), (.int .i64 (0)), (.int .i64 (0)), (.slice none 0 0)] : List Value)
abbrev Z80 (p0 : CeR) : List Value := ([(.int .i64 p0.x.cl), (.int .i64 p0.x.seq)] : List Value) ++ hc p0.x.h ++ ([(.int .i64 p0.x.len), (.int .i64 p0.x.sb), (.int .i64 p0.x.sm), (.slice p0.sa p0.S.length p0.sc)] : List Value)
theorem ZeC (w : World) (t : Nat) (F Cn rp : Int) (la : Option Addr) (lc : Nat) (L : List CeR) (ht : (Z0 t 107 [.int .i64 F, .int .i64 Cn, .int .i64 rp, .slice la L.length lc]).ok w) (hrow : (Zc 76 38 (.slice la L.length lc) L.length (L.flatMap Z0V)).ok w) (hlL : L.length ≤ 64) (a b : Int) :
  Calls Tryz.prog 86 #[(.pointer (some ⟨t, 0, none⟩)), (.agg ⟨([(.int .i64 (a)), (.int .i64 (b))] : List Value)⟩)] w fun e w' => e = .returned (.tuple #[.agg ⟨Z0V ((ZU L a b).getD ce0)⟩, .bool (ZU L a b).isSome]) ∧ Upd [] w w' := by
 have H := Sat.start0 w
 have hlL0 := hlL
 refine Z8 Tryz.func86 rfl 35 rfl kn ?_
 refine zsl <| zy <| zdb (Z5Q a b) H fun b2 w3 H4 => ?_
 refine kk <| zy <| zda (Z6Y) H4 fun b6 w7 H8 => ?_
 refine kk <| wv 5 (.bool false) <| znt <| Z5 <| zsl <| wv 7 (pt t 0) <| wv 8 (pt t 0) <| wv 9 (pt t 3) <| zw1 10 (.slice la L.length lc) (H8.roCell 0 rfl ht (fun h => h) rfl) <| wv 11 (vi L.length) ?_
 refine wv 12 (vi 0) <| znt <| Za <| Zw ([5, 6] ++ List.range' 12 22) (fun F_ W_ m_ => ∃ (i : Nat), F_ 12 = (vi i) ∧ (i ≤ L.length) ∧ (∀ j, j < i → ∀ y, L[j]? = some y → ¬ (y.x.cl = a ∧ y.x.seq = b)) ∧ Sat w [Z3 w (fun _ => False), Z0 b2 59 (Z5Q a b), Z0 b6 76 (Z6Y)] W_ ∧ m_ = L.length - i) _ ⟨0, (show ((vi 0) : Value) = _ by first | rfl | go_num), (Nat.zero_le _), (fun _ h => absurd h (Nat.not_lt_zero _)), H8, rfl⟩ ?_
 rintro g9 w10 _ ⟨i, v12, hi, hno, H11, rfl⟩
 refine Zd 12 _ v12 ?_
 refine zsl <| wv 13 (.bool (decide ((i : Int) < L.length))) <| znt <| Z5 ?_
 refine zid (fun b14 g15 => ?_) fun b14 g29 => ?_
 ·refine Zt <| ztn <| Z5 <| Za <| zsl <| wv 14 (vi i) <| wv 6 (vi i) <| znt <| Z5 <| zqs H11 ?_
  refine qv 15 (pt t 0) <| qv 16 (pt t 0) <| qv 17 (pt t 3) <| qv 18 (.slice la L.length lc) ?_ (hr := fun _ H' => (zl1 (H'.roCell 0 rfl ht (fun h => h) rfl)))
  refine qv 19 (vi i) ?_
  obtain ⟨g17, c18, e19⟩ := Z0z hrow om
  obtain ⟨x20, h21⟩ := Z3E (show i < L.length by omega)
  refine qv 20 (.pointer (some ⟨g17, 0 + ((i : Int)).toNat * 38, none⟩)) ?_ (hr := fun _ H' => (Z04 (E := 76) kr kr kn rfl e19 rfl om om))
  refine qv 21 (.pointer (some ⟨g17, 0 + ((i : Int)).toNat * 38, none⟩)) <| qv 22 (.pointer (some ⟨g17, 0 + ((i : Int)).toNat * 38, none⟩)) <| qv 23 (.agg ⟨(Z5Q x20.x.cl x20.x.seq)⟩) ?_ (hr := fun _ H' => (Z05 (vs := (Z5Q x20.x.cl x20.x.seq)) rfl kr kr kn (Z2n (H'.roCk 0 rfl hrow (fun _ _ h => h)) e19 Z0N h21 0 (show 0 + ((i : Int)).toNat * 38 = i * 38 + 0 by omega) kr kr)))
  refine qv 24 (.agg ⟨(Z5Q a b)⟩) ?_ (hr := fun _ H' => (zlN (vs := (Z5Q a b)) (H'.at 1 rfl)))
  refine qv 25 (.bool (decide (x20.x.cl = a ∧ x20.x.seq = b))) ?_ (hr := fun _ H' => (ZaR x20.x.cl x20.x.seq a b rfl rfl))
  refine Z17 ?_
  intro w22 H23
  apply ztn
  refine zid (fun b24 _ => ?_) fun b24 _ => ?_
  ·refine zsl <| wv 26 (pt t 0) <| wv 27 (pt t 0) <| wv 28 (pt t 3) <| zw1 29 (.slice la L.length lc) (H23.roCell 0 rfl ht (fun h => h) rfl) <| wv 30 (vi i) <| wv 31 (.pointer (some ⟨g17, 0 + ((i : Int)).toNat * 38, none⟩)) ?_ (hr := Z04 (E := 76) kr kr kn rfl e19 rfl om om)
   refine wv 32 (.agg ⟨(Z80 x20)⟩) ?_ (hr := Z05 (vs := (Z80 x20)) rfl kr kr kn (Z2n (H23.roCk 0 rfl hrow (fun _ _ h => h)) e19 Z0N h21 0 (show 0 + ((i : Int)).toNat * 38 = i * 38 + 0 by omega) kr kr))
   refine zy <| Z1z (Z80 x20) H23 2 fun w26 H27 => ?_
   refine kk <| wv 5 (.bool true) <| znt <| Zq <| Z0k <| ZP <| Z1h <| Z0k <| ZP <| Z9t rfl (ZL (vs := (Z80 x20)) rfl kr kr kn (H27.at 2 rfl) kr) (Z10 (v := (.bool true)) rfl) ?_
   exact ⟨by rw [Zeu hno h21 b24]; rfl, H27.upd 0 rfl [] ne⟩
  refine Zt <| Z7 <| ztn <| Zl <| zwi 33 ((i : Int) + 1) <| wv 12 (vi ((i : Int) + 1)) <| Zu <| Z6 ?_ _ ⟨(i + 1), rfl, om, (Zc7 hno h21 b24), H23, rfl⟩ om
  exact zs
 refine zxb <| ztn <| zsl <| wv 34 (.agg ⟨(Z6Y)⟩) <| zy <| Z1z (Z6Y) H11 2 fun w32 H33 => ?_
 refine kk <| wv 5 (.bool false) <| znt <| Zq <| Z9t rfl (ZL (vs := (Z6Y)) rfl kr kr kn (H33.at 2 rfl) kr) (Z10 (v := (.bool false)) rfl) ?_
 exact ⟨by rw [Zc4 hno (show L.length ≤ i by omega)]; kernel_rfl, H33.upd 0 rfl [] ne⟩
def Z4W (x : Signed) : List Value := [.int .i64 x.p, Z3R x.s]
theorem Z6f (x : Signed) : (Z4W x).length = 2 := rfl
theorem BytesAt.now {W w : World} {G : List Ck} {v : Value} {s : List UInt8} (H : Sat W G w) (j : Nat) (hj : G[j]? = Option.some (Z3 W fun _ => False)) (hv : BytesAt W v s) : BytesAt w v s :=
 SliceOf.mono hv fun _ _ h => H.cellR j hj h (fun h => h)
abbrev Z9Y (p0 : Option Addr) (p1 : Nat) (p2 : Nat) : List Value := ([(.slice p0 p1 p2)] : List Value)
abbrev Zfl (p0 : Option Addr) (p1 : List Signed) (p2 : Nat) : Ck := Zc 181 2 (.slice p0 p1.length p2) p1.length (p1.flatMap Z4W)
abbrev Z5U (p0 : Int) (p1 : Int) : List Value := ([(.int .i64 p0), (.int .i64 p1)] : List Value)
abbrev Z89 : List Value := ([(.int .i64 (0)), (.int .i64 (0))] : List Value)
abbrev Z9C (p0 : Int) (p1 : Value) : List Value := ([(.int .i64 p0), p1] : List Value)
def ZfE (r : Nat) (a : Option Addr) (c : Nat) (L : List Signed) (tv : Value) (tx : List UInt8) : List Ck := [Z0 r 165 [.slice a L.length c], Zc 181 2 (.slice a L.length c) L.length (L.flatMap Z4W), Zc 5 1 tv tx.length (tx.flatMap Zy)]
theorem Z5H {L : List Signed} (hn : L.Nodup) {i : Nat} {y : Signed} (h : L[i]? = some y) : Ze L y = (i : Int) + 1 := by
 obtain ⟨hi, rfl⟩ := List.getElem?_eq_some_iff.1 h
 have : L.idxOf? L[i] = some i := by
  rw [List.idxOf?_eq_some_iff]
  refine ⟨hi, rfl, fun j hj e => ?_⟩
  have := List.pairwise_iff_getElem.1 hn j i om hi hj
  exact this e
 unfold Ze; rw [this]; rfl
theorem Zdi {L : List Signed} {y : Signed} (h : y ∉ L) : Ze L y = 0 := by
 unfold Ze
 cases hq : L.idxOf? y with
 | none => rfl
 | some i =>
  obtain ⟨h1, h2, _⟩ := List.idxOf?_eq_some_iff.1 hq
  exact absurd (h2 ▸ List.getElem_mem h1) h
theorem Z5n {L : List Signed} (hn : L.Nodup) {p m : Int} {tx : List UInt8} : Z0M L p m tx = true ↔ ∃ i : Nat, L[i]? = some ⟨p, tx⟩ ∧ m = (i : Int) + 1 := by
 unfold Z0M
 simp only [Bool.and_eq_true, decide_eq_true_eq]
 constructor
 ·rintro ⟨h1, h2⟩
  by_cases hm : (⟨p, tx⟩ : Signed) ∈ L
  ·obtain ⟨i, hi, e⟩ := List.mem_iff_getElem.1 hm
   have h3 : L[i]? = some ⟨p, tx⟩ := by rw [List.getElem?_eq_getElem hi, e]
   exact ⟨i, h3, by have := Z5H hn h3; omega⟩
  rw [Zdi hm] at h1; omega
 rintro ⟨i, h1, h2⟩
 have := Z5H hn h1
 omega
theorem Zcf {L : List Signed} {i : Nat} {x : Signed} {y : Signed} (hx : L[i]? = some x) (hne : ¬ x = y) (h : y ∉ L.take i) : y ∉ L.take (i + 1) := by
 rw [List.take_add_one, hx, List.mem_append]
 rintro (q | q)
 ·exact h q
 simp at q; exact hne q.symm
theorem Z2F (w : World) (r : Nat) (a : Option Addr) (c : Nat) (L : List Signed) (tv : Value) (tx : List UInt8) (hB : (ZR (ZfE r a c L tv tx)).ok w) (hl : L.length ≤ 1000000) (hn : L.Nodup) (p : Int) :
  Calls Tryz.prog 40 #[(.pointer (some ⟨r, 0, none⟩)), (.int .i64 (p)), tv] w fun e w' => ∃ a' c', e = .returned (.agg #[.int .i64 p, .int .i64 (Ze (Zg L (⟨p, tx⟩ : Signed)) (⟨p, tx⟩ : Signed))]) ∧ Sat w [Z0 r 165 [.slice a' (Zg L (⟨p, tx⟩ : Signed)).length c'], Zc 181 2 (.slice a' (Zg L (⟨p, tx⟩ : Signed)).length c') (Zg L (⟨p, tx⟩ : Signed)).length ((Zg L (⟨p, tx⟩ : Signed)).flatMap Z4W), Zc 5 1 tv tx.length (tx.flatMap Zy), Z3 w (ZR (ZfE r a c L tv tx)).fp] w' := by
 have H := Sat.start (ZfE r a c L tv tx) hB
 refine Z8 Tryz.func40 rfl 64 rfl kn ?_
 refine zsl <| zy <| zda (Z89) H fun b2 w3 H4 => ?_
 refine kk <| znt <| Z5 <| zsl <| wv 8 (pt r 0) <| wv 9 (pt r 0) <| wv 10 (pt r 0) <| zw1 11 (.slice a L.length c) (H4.cell 0 rfl rfl) <| wv 12 (vi L.length) <| wv 13 (vi 0) ?_
 refine znt <| Za <| Zw ([7] ++ List.range' 13 31) (fun F_ W_ m_ => ∃ (i : Nat), F_ 13 = (vi i) ∧ (i ≤ L.length) ∧ ((⟨p, tx⟩ : Signed) ∉ L.take i) ∧ Sat w [Z0 r 165 (Z9Y a L.length c), (Zfl a L c), Zc 5 1 tv tx.length (tx.flatMap Zy), Z3 w (ZR (ZfE r a c L tv tx)).fp, Z0 b2 69 (Z89)] W_ ∧ m_ = L.length + 1 - i) _ ⟨0, (show ((vi 0) : Value) = _ by first | rfl | go_num), by omega, by simp, H4, rfl⟩ ?_
 rintro g5 w6 _ ⟨i, v8, hi, hno, H7, rfl⟩
 refine Zd 13 _ v8 ?_
 refine zsl <| wv 14 (.bool (decide ((i : Int) < L.length))) <| znt <| Z5 ?_
 refine zid (fun b10 g11 => ?_) fun b10 g36 => ?_
 ·refine Zt <| ztn <| Z5 <| Za <| zsl <| wv 15 (vi i) <| wv 7 (vi i) <| znt <| Z5 <| zqs H7 ?_
  refine qv 16 (pt r 0) <| qv 17 (pt r 0) <| qv 18 (pt r 0) <| qv 19 (.slice a L.length c) ?_ (hr := fun _ H' => (zl1 (H'.cell 0 rfl rfl)))
  refine qv 20 (vi i) ?_
  obtain ⟨g13, c14, e15⟩ := Z0z (H7.at 1 rfl) om
  obtain ⟨x16, h17⟩ := Z3E (show i < L.length by omega)
  refine qv 21 (.pointer (some ⟨g13, 0 + ((i : Int)).toNat * 2, none⟩)) ?_ (hr := fun _ H' => (Z04 (E := 181) kr kr kn rfl e15 rfl om om))
  refine qv 22 (.pointer (some ⟨g13, 0 + ((i : Int)).toNat * 2, none⟩)) <| qv 23 (vi x16.p) ?_ (hr := fun _ H' => (zl1 (Z1x (H'.at 1 rfl) e15 Z6f h17 0 rfl (show 0 + ((i : Int)).toNat * 2 = i * 2 + 0 by omega) kr)))
  refine qv 24 (vi p) <| qv 25 (.bool (decide (x16.p = p))) <| qv 26 (.bool (decide (x16.p = p))) ?_
  refine ziq 26 (fun b18 g19 => ?_) fun b18 g32 => ?_
  ·refine qy 10 26 true 27 (pt r 0) <| qy 10 26 true 28 (pt r 0) <| qy 10 26 true 29 (pt r 0) <| qy 10 26 true 30 (.slice a L.length c) ?_ (hr := fun _ H' => (zl1 (H'.cell 0 rfl rfl)))
   refine qy 10 26 true 31 (vi i) <| qy 10 26 true 32 (.pointer (some ⟨g13, 0 + ((i : Int)).toNat * 2, none⟩)) ?_ (hr := fun _ H' => (Z04 (E := 181) kr kr kn rfl e15 rfl om om))
   refine qy 10 26 true 33 (.pointer (some ⟨g13, 0 + ((i : Int)).toNat * 2 + 1, none⟩)) <| qy 10 26 true 34 (Z3R x16.s) ?_ (hr := fun _ H' => (zl1 (Z1x (H'.at 1 rfl) e15 Z6f h17 1 rfl (show 0 + ((i : Int)).toNat * 2 + 1 = i * 2 + 1 by omega) kr)))
   refine qy 10 26 true 35 (tv) <| qy 10 26 true 36 (Z3R tx) ?_ (hr := fun _ H' => (Z3o (e := 5) (s := tx) kr kr kr rfl (Z2i (ListAt.row (e := 5) (enc := Zy) (sz := 1) (v := tv) (n := tx.length) (xs := tx) Zk (by decide) (H'.at 2 rfl)))))
   refine qy 10 26 true 37 (.bool (decide (x16.s = tx))) ?_ (hr := fun _ H' => (Zcb x16.s tx rfl rfl))
   refine qv 38 (.bool (decide (x16.s = tx))) <| Z17 fun w21 H22 => ?_
   apply ztn
   refine zid (fun b23 g24 => ?_) fun b23 g29 => ?_
   ·refine zsl <| wv 39 (vi p) <| wv 40 (vi i) <| zwi 41 ((i : Int) + 1) <| wv 42 (.agg ⟨(Z5U p ((i : Int) + 1))⟩) <| zy <| Z3i (vs := (Z5U p ((i : Int) + 1))) rfl H22 4 rfl rfl rfl rfl kr kn kn kr fun w27 H28 => ?_
    refine kk <| znt <| Zq <| Z0k <| ZP <| Z1h <| Z0k <| ZP <| Z66 rfl (ZL (vs := (Z5U p ((i : Int) + 1))) rfl kr kr kn (H28.at 4 rfl) kr) ?_
    have hy : L[i]? = some (⟨p, tx⟩ : Signed) := by rw [h17]; congr 1; have q1 := of_decide_eq_true b18; have q2 := of_decide_eq_true b23; rw [← q1, ← q2]
    have hm : (⟨p, tx⟩ : Signed) ∈ L := List.mem_of_getElem? hy
    refine ⟨a, c, ?_, ?_⟩
    ·rw [Z3y hm, Z5H hn hy]
    rw [Z3y hm]; exact H28.pk [0, 1, 2, 3]
   refine Zt <| Z7 <| ztn <| Zl <| zwi 43 ((i : Int) + 1) <| wv 13 (vi ((i : Int) + 1)) <| Zu <| Z6 ?_ _ ⟨(i + 1), rfl, by omega, (Zcf h17 (fun e => by first | exact absurd (congrArg Signed.s e) (of_decide_eq_false b23) | exact absurd (congrArg Signed.p e) (of_decide_eq_false b23)) hno), H22, rfl⟩ om
   exact zs
  iterate 11 refine qn 10 26 true ?_
  refine qv 38 (.bool false) <| Z17 fun w34 H35 => ?_
  refine ztn <| Z2O rfl ?_
  refine Zt <| Z7 <| ztn <| Zl <| zwi 43 ((i : Int) + 1) <| wv 13 (vi ((i : Int) + 1)) <| Zu <| Z6 ?_ _ ⟨(i + 1), rfl, by omega, (Zcf h17 (fun e => by first | exact absurd (congrArg Signed.s e) (of_decide_eq_false b18) | exact absurd (congrArg Signed.p e) (of_decide_eq_false b18)) hno), H35, rfl⟩ om
  exact zs
 refine zxb <| ztn <| Z5 <| Z18 H7 [Z0 r 165 (Z9Y a L.length c), Zc 5 1 tv tx.length (tx.flatMap Zy), Z3 w (ZR (ZfE r a c L tv tx)).fp, Z0 b2 69 (Z89)] [13] 14 rfl kr (fun Hx => (Hx.pk [0, 2, 3, 4])) fun w38 H39 S40 => ?_
 refine zkp 0 S40 44 (pt r 0) <| zkp 1 S40 45 (pt r 0) <| zkp 2 S40 46 (pt r 0) <| zkp 3 S40 47 (pt r 0) <| zkv 4 S40 48 (.slice a L.length c) ?_ (he := fun _ H' => (zl1 (H'.cell 0 rfl rfl)))
 refine zkp 5 S40 49 (vi p) <| zkp 6 S40 50 tv <| Zdl 7 rfl kr kr kr (fun _ _ _ h => h) S40 (Zb rfl) rfl kr (d := 51) (v := (Z3R tx)) rfl (fun _ H' => (Z3o (e := 5) (s := tx) kr kr kr rfl (Z2i (ListAt.row (e := 5) (enc := Zy) (sz := 1) (v := tv) (n := tx.length) (xs := tx) Zk (by decide) (H'.at 1 rfl))))) ?_
 refine Z32 8 rfl kr kr kr (fun _ _ _ h => h) S40 (Zb rfl) rfl (d := 52) (v := (.agg ⟨(Z9C p (Z3R tx))⟩)) rfl (fun _ => kr) ?_
 refine zky 9 ?_
 refine Z2w 181 2 24 (.agg ⟨([(vi 0), (Z3R ([] : List UInt8))] : List Value)⟩) [(0, (.agg ⟨(Z9C p (Z3R tx))⟩))] (Z9C p (Z3R tx)) H39 ?_
 intro b42 w43 H44
 have S45 := H44.pk [0, 2, 3, 4]
 refine ke S45 <| zky 10 ?_
 refine Z00 (T := 163) (e := 181) (size := 2) (bytes := 24) rfl H44 kr 1 5 rfl rfl rfl rfl kr om om ?_
 intro v47 w48 H49
 have H52 := H49.ct 1 rfl (Zc 181 2 v47 ((L ++ [(⟨p, tx⟩ : Signed)]).length) ((L ++ [(⟨p, tx⟩ : Signed)]).flatMap Z4W)) ja
 obtain ⟨a50, c51, rfl⟩ := Z2 (H52.at 1 rfl)
 have S53 := H52.pk [0, 2, 3, 4]
 refine ke S53 <| zkp 11 S53 55 (pt r 0) <| zkp 12 S53 56 (pt r 0) <| Z3v 13 (Sat w [Zc 5 1 tv tx.length (tx.flatMap Zy), Z3 w (ZR (ZfE r a c L tv tx)).fp, Z0 b2 69 (Z89)]) rfl kr (Zb rfl) rfl (fun Kq kq => ?_)
 refine Z3i (vs := (Z9Y a50 ((L ++ [(⟨p, tx⟩ : Signed)]).length) c51)) rfl H52 0 rfl rfl rfl rfl kr kn kn kr ?_
 intro w55 H56
 have S58 := H56.pk [2, 3, 4]
 refine kq _ _ S58 <| zhf <| ztn <| zsl <| wv 57 (vi p) <| wv 58 (pt r 0) <| wv 59 (pt r 0) <| wv 60 (pt r 0) <| zw1 61 (.slice a50 ((L ++ [(⟨p, tx⟩ : Signed)]).length) c51) (H56.cell 0 rfl rfl) <| wv 62 (vi ((L ++ [(⟨p, tx⟩ : Signed)]).length)) ?_
 refine wv 63 (.agg ⟨(Z5U p (((L ++ [(⟨p, tx⟩ : Signed)]).length : Int)))⟩) <| zy <| Z3i (vs := (Z5U p (((L ++ [(⟨p, tx⟩ : Signed)]).length : Int)))) rfl H56 4 rfl rfl rfl rfl kr kn kn kr fun w60 H61 => ?_
 refine kk <| znt <| Zq <| Z66 rfl (ZL (vs := (Z5U p (((L ++ [(⟨p, tx⟩ : Signed)]).length : Int)))) rfl kr kr kn (H61.at 4 rfl) kr) ?_
 have hno2 : (⟨p, tx⟩ : Signed) ∉ L := by rw [List.take_of_length_le (show L.length ≤ i by omega)] at hno; exact hno
 have hsl : Zg L (⟨p, tx⟩ : Signed) = L ++ [(⟨p, tx⟩ : Signed)] := by unfold Zg; rw [if_neg hno2]
 have hnd : (L ++ [(⟨p, tx⟩ : Signed)]).Nodup := by rw [List.nodup_append]; exact ⟨hn, by simp, fun x hx y hy => by rw [List.mem_singleton.1 hy]; exact fun e => hno2 (e ▸ hx)⟩
 have hat : (L ++ [(⟨p, tx⟩ : Signed)])[L.length]? = some (⟨p, tx⟩ : Signed) := by simp
 refine ⟨a50, c51, ?_, ?_⟩
 ·rw [hsl, Z5H hnd hat]; first | rfl | simp
 rw [hsl]; exact H61.pk [0, 1, 2, 3]
end Go.Proofs.YtenihpghfdcpkaaGreat
