/- WHAT IS PROVED: contracts and plain laws of MkR. Conditions: stated with each. -/
import Derived.Test.YtenihpghfdcpkaaGreatPV02
import Derived.Test.YtenihpghfdcpkaaGreatPV05
import Derived.Test.YtenihpghfdcpkaaGreatPV31
set_option maxHeartbeats 4000000
set_option maxRecDepth 100000
namespace Go.Proofs.YtenihpghfdcpkaaGreat
open Go.RowKit
abbrev Z46 (p0 : Int) (p1 : Int) (p2 : Int) (p3 : Int) (p4 : Value) (p5 : Option Addr) (p6 : Nat) (p7 : Nat) : List Value := ([i6 p0, i6 p1, i6 p2, u6 p3, p4, (.slice p5 p6 p7)] : LV)
abbrev Z31 : List Value := ([i6 0, u6 0, (.slice none 0 0), (.slice none 0 0), (.slice none 0 0)] : LV)
abbrev Ze5 (p0 : Int) (p1 : Int) : List Value := ([i6 p0, u6 p1, (.slice none 0 0), (.slice none 0 0), (.slice none 0 0)] : LV)
abbrev Z9g (p0 : Int) (p1 : Int) (p2 : Option Addr) (p3 : Nat) (p4 : Nat) : List Value := ([i6 p0, u6 p1, (.slice p2 p3 p4), (.slice none 0 0), (.slice none 0 0)] : LV)
abbrev Z5d (p0 : Option Addr) (p1 : List PrR) (p2 : Nat) : Ck := Zo 71 6 (.slice p0 p1.length p2) p1.length (p1.flatMap Z0T)
abbrev Z7D (p0 : Int) (p1 : Int) : List Value := ([i6 p0, i6 p1] : LV)
abbrev Z8I (p0 : PrR) (p1 : Nat) : List Value := ([i6 p0.r, i6 p0.e, u6 p0.f, (.slice p0.ca p1 p0.cc), i6 p0.sb, i6 p0.sm] : LV)
abbrev Z4N (p0 : Int) (p1 : Int) (p2 : Option Addr) (p3 : Nat) (p4 : Nat) (p5 : Option Addr) (p6 : Nat) (p7 : Nat) (p8 : Option Addr) (p9 : Nat) (p10 : Nat) : List Value := ([i6 p0, u6 p1, (.slice p2 p3 p4), (.slice p5 p6 p7), (.slice p8 p9 p10)] : LV)
abbrev Z7h (p0 : Option Addr) (p1 : List OpR) (p2 : Nat) : Ck := Zo 86 34 (.slice p0 p1.length p2) p1.length (p1.flatMap Z0J)
abbrev Zai (p0 : Option Addr) (p1 : List TbR) (p2 : Nat) : Ck := Zo 89 2 (.slice p0 p1.length p2) p1.length (p1.flatMap Z16)
abbrev Z3z (p0 : OpR) (p1 : Nat) : List Value := ([i6 p0.i, (.slice p0.pa p1 p0.pc)] : LV) ++ hc p0.h
abbrev Z6f (p0 : TbR) (p1 : Nat) : List Value := ([i6 p0.i, (.slice p0.da p1 p0.dc)] : LV)
def prG (L : List PrR) (E T r : Int) : Option PrR := L.find? fun p => decide (p.r = r) && decide (p.e = E) && decide (p.f = T)
def Z5E (L : List PrR) (E T : Int) (n : Nat) : List PrR := (List.range n).filterMap fun (i : Nat) => prG L E T (i : Int)
def opG (OS : List OpR) (s : Z1g) : Option OpR := OS.find? fun o => decide (o.i = s.i) && decide ((o.P.length : Int) ≤ 256) && decide (s.h = Z0E (ofT s.cl s.sq o.h o.P))
def Zbp (OS : List OpR) (O : List Z1g) : List OpR := O.filterMap (opG OS)
def tbG (OS : List OpR) (TS : List TbR) (s : Z1g) : Option TbR := if (opG OS s).isSome then none else TS.find? fun t => decide (t.i = s.i)
def Zcb (OS : List OpR) (TS : List TbR) (O : List Z1g) : List TbR := O.filterMap (tbG OS TS)
section
variable {L D : List PrR} {E T : Int} {a n Q : Nat} {p : PrR}
theorem Zdu (hD : D = Z5E L E T a) (h : prG L E T (a : Int) = some p) : D ++ [p] = Z5E L E T (a + 1) := by rw [hD]; unfold Z5E; rw [List.range_succ, List.filterMap_append]; simp [h]
theorem Zdw (hD : D = Z5E L E T a) (h : prG L E T (a : Int) = none) : D = Z5E L E T (a + 1) := by rw [hD]; unfold Z5E; rw [List.range_succ, List.filterMap_append]; simp [h]
theorem Zdy (hD : D = Z5E L E T a) (ha : a ≤ n) (hl : D.length ≤ Q) (h : ¬ (a < n ∧ D.length < Q)) : D = (Z5E L E T n).take Q := by
 rcases Nat.lt_or_ge a n with q | q
 ·have hl2 : D.length = Q := by omega
  have e : Z5E L E T n = Z5E L E T a ++ ((List.range' a (n - a)).filterMap fun (i : Nat) => prG L E T (i : Int)) := by
   unfold Z5E
   rw [← List.filterMap_append]
   congr 1
   have := List.range'_append (s := 0) (m := a) (n := n - a) (step := 1)
   rw [List.range_eq_range', List.range_eq_range']
   rw [show n = a + (n - a) by omega]
   simpa using this.symm
  rw [e, ← hD, ← hl2, List.take_left']
  rfl
 rw [show n = a by omega, ← hD, List.take_of_length_le hl]
end
section
variable {α : Type} {g : Z1g → Option α} {O : List Z1g} {D : List α} {k : Nat} {x : α}
theorem Z9t (hD : D = (O.take k).filterMap g) (hk : k < O.length) (h : g (O.getD k Z0i) = some x) : D ++ [x] = (O.take (k + 1)).filterMap g := by
 rw [Z4A O Z0i hk, List.filterMap_append, ← hD]; simp only [List.filterMap_cons, h, List.filterMap_nil]
theorem Z6B (hD : D = (O.take k).filterMap g) (hk : k < O.length) (h : g (O.getD k Z0i) = none) : D = (O.take (k + 1)).filterMap g := by
 rw [Z4A O Z0i hk, List.filterMap_append, ← hD]; simp only [List.filterMap_cons, h, List.filterMap_nil, List.append_nil]
theorem Zea (hD : D = (O.take k).filterMap g) : D.length ≤ k := by
 rw [hD]; have := List.length_filterMap_le g (O.take k); rw [List.length_take] at this; omega
end
theorem Zca (w : World) (F c E last T : Int) (hF : 1 ≤ F ∧ F ≤ 1000000) (n Q : Nat) (hn : (n : Int) = 3 * F + 1) (hQ : (Q : Int) = 2 * F + 1) (vg : Value) (na : Option Addr) (nc : Nat) (OO : List Z1g) (hOO : ListAt Z39 36 w (.slice na OO.length nc) OO) (hlOO : OO.length ≤ 64) (hSp : ∀ i, i < OO.length → (OO.getD i Z0i).cl ≤ 9223372036854775807 ∧ (OO.getD i Z0i).sq ≤ 9223372036854775807) (pa : Option Addr) (pc : Nat) (L : List PrR) (hL : ListAt Z0T 6 w (.slice pa L.length pc) L) (hlL : L.length ≤ 1000) (qa : Option Addr) (qc : Nat) (OS : List OpR) (hOS : ListAt Z0J 34 w (.slice qa OS.length qc) OS) (hlO : OS.length ≤ 1000) (hoL : ∀ i, i < OS.length → ListAt Zx 1 w (.slice (OS.getD i op0).pa (OS.getD i op0).P.length (OS.getD i op0).pc) (OS.getD i op0).P) (hlo : ∀ i, i < OS.length → (OS.getD i op0).P.length ≤ 1000) (ta : Option Addr) (tc : Nat) (TS : List TbR) (hTS : ListAt Z16 2 w (.slice ta TS.length tc) TS) (hlT : TS.length ≤ 1000) :
  Calls Tryz.prog 20 #[(.agg ⟨([i6 F, i6 c, i6 E, u6 last, (vg), (.slice na OO.length nc)] : LV)⟩), u6 T, (.slice pa L.length pc), (.slice qa OS.length qc), (.slice ta TS.length tc)] w fun e w' => ((((Z5E L E T n).take Q).length : Int) < 2 * F + 1 ∧ e = .returned (.tuple #[.agg ⟨[i6 0, u6 0, .slice none 0 0, .slice none 0 0, .slice none 0 0]⟩, .bool false]) ∧ Upd [] w w') ∨ ∃ (ca : Option Addr) (cc : Nat) (oa : Option Addr) (oc : Nat) (za : Option Addr) (zc : Nat), ¬ (((Z5E L E T n).take Q).length : Int) < 2 * F + 1 ∧ e = .returned (.tuple #[.agg ⟨[i6 E, u6 T, .slice ca ((Z5E L E T n).take Q).length cc, .slice oa (Zbp OS OO).length oc, .slice za (Zcb OS TS OO).length zc]⟩, .bool true]) ∧ (Z0h [Zo 71 6 (.slice ca ((Z5E L E T n).take Q).length cc) ((Z5E L E T n).take Q).length (((Z5E L E T n).take Q).flatMap Z0T), Zo 86 34 (.slice oa (Zbp OS OO).length oc) (Zbp OS OO).length ((Zbp OS OO).flatMap Z0J), Zo 89 2 (.slice za (Zcb OS TS OO).length zc) (Zcb OS TS OO).length ((Zcb OS TS OO).flatMap Z16)]).ok w' ∧ Upd [] w w' ∧ ∀ q_, (Z0h [Zo 71 6 (.slice ca ((Z5E L E T n).take Q).length cc) ((Z5E L E T n).take Q).length (((Z5E L E T n).take Q).flatMap Z0T), Zo 86 34 (.slice oa (Zbp OS OO).length oc) (Zbp OS OO).length ((Zbp OS OO).flatMap Z0J), Zo 89 2 (.slice za (Zcb OS TS OO).length zc) (Zcb OS TS OO).length ((Zcb OS TS OO).flatMap Z16)]).fp q_ → w.heap.size ≤ q_ := by
 have H := Sat.start0 w
 refine Zg Tryz.func20 rfl 187 rfl kn ?_
 refine zsl <| zy <| zdb (Z46 F c E last vg na OO.length nc) H fun b2 w3 H4 => ?_
 refine kk <| zy <| zda (Z31) H4 fun b6 w7 H8 => ?_
 refine kk <| wv 11 (.bool false) <| Z1a <| wv 20 (pt b2 2) <| zw1 21 (vi E) (H8.cell 1 rfl rfl) <| wv 22 (vu T) <| wv 23 (.agg ⟨(Ze5 E T)⟩) <| zy <| zda (Z31) H8 fun b10 w11 H12 => ?_
 refine kk <| zy <| Z1S (Ze5 E T) H12 3 fun w14 H15 => ?_
 refine kk <| znt <| Z9 <| Z9 ?_
 have H17 := H15.addNil 71 6
 refine ZG <| wv 13 (vi 0) <| znt <| Zh <| ZB ([13, 14] ++ List.range' 24 57) (fun F_ W_ m_ => ∃ (a : Nat) (ca : Option Addr) (cc : Nat) (D : List PrR), F_ 13 = (vi a) ∧ ((a : Int) ≤ 3 * F + 1) ∧ (D = Z5E L E T a) ∧ ((D.length : Int) ≤ 2 * F + 1) ∧ Sat w [zR w, Z0 b2 36 (Z46 F c E last vg na OO.length nc), Z0 b6 47 (Z31), Z0 b10 47 (Z9g E T ca D.length cc), (Z5d ca D cc)] W_ ∧ m_ = n - a) _ ⟨0, none, 0, [], (show ((vi 0) : Value) = _ by first | rfl | go_num), om, rfl, (by simp; omega), H17, rfl⟩ ?_
 rintro g18 w19 _ ⟨a, ca, cc, D, v21, ha, hD, hDl, H20, rfl⟩
 refine Zn 13 _ v21 ?_
 apply Z9
 refine Z1J (List.range' 24 14) (fun G_ W_ => G_ 37 = (.bool (decide ((a : Int) < 3 * F + 1 ∧ (D.length : Int) < 2 * F + 1))) ∧ Sat w [zR w, Z0 b2 36 (Z46 F c E last vg na OO.length nc), Z0 b6 47 (Z31), Z0 b10 47 (Z9g E T ca D.length cc), (Z5d ca D cc)] W_) ?_ ?_
 ·refine zqs H20 ?_
  refine qv 24 (vi a) <| qv 25 (pt b2 0) <| qv 26 (.agg ⟨(Z7D F c)⟩) ?_ (hr := fun _ H' => (zlN (vs := (Z7D F c)) (H'.at 1 rfl)))
  refine Z0r (Zc rfl) (d := 27) (v := (vi (3 * F + 1))) rfl (fun _ _ => by kernel_rfl) (fun w' H' => (Z7o w' F c om).mono fun _ _ h => ⟨h.1, H'.keepU h.2⟩) ?_
  refine qv 28 (.bool (decide ((a : Int) < (3 * F + 1)))) <| qv 29 (.bool (decide ((a : Int) < (3 * F + 1)))) ?_
  refine ziq 29 (fun b24 g25 => ?_) fun b24 g29 => ?_
  ·refine qy 5 29 true 30 (pt b10 2) <| qy 5 29 true 31 (.slice ca D.length cc) ?_ (hr := fun _ H' => (zl1 (H'.cell 3 rfl rfl)))
   refine Z4a (Z05 5 29 true rfl kr rfl kr) (d := 32) (v := (vi D.length)) rfl (fun _ H' => kr) ?_
   refine qy 5 29 true 33 (pt b2 0) <| qy 5 29 true 34 (.agg ⟨(Z7D F c)⟩) ?_ (hr := fun _ H' => (zlN (vs := (Z7D F c)) (H'.at 1 rfl)))
   refine Z0r (Z05 5 29 true rfl kr rfl kr) (d := 35) (v := (vi (2 * F + 1))) rfl (fun _ _ => by kernel_rfl) (fun w' H' => (Z5R w' F c om).mono fun _ _ h => ⟨h.1, H'.keepU h.2⟩) ?_
   refine qy 5 29 true 36 (.bool (decide ((D.length : Int) < (2 * F + 1)))) <| qv 37 (.bool (decide ((D.length : Int) < (2 * F + 1)))) <| Z01 fun w27 H28 => ?_
   refine ZH ?_ ⟨(congrArg Value.bool (show (decide ((D.length : Int) < (2 * F + 1))) = (decide ((a : Int) < 3 * F + 1 ∧ (D.length : Int) < 2 * F + 1)) by (simp <;> omega))), H28⟩
   exact zs
  iterate 7 refine qn 5 29 true ?_
  refine qv 37 (.bool false) <| Z01 fun w31 H32 => ?_
  refine ZH ?_ ⟨(congrArg Value.bool (show false = (decide ((a : Int) < 3 * F + 1 ∧ (D.length : Int) < 2 * F + 1)) by (simp <;> omega))), H32⟩
  exact zs
 rintro f33 w34 ⟨v36, H35⟩
 refine Zn 37 _ v36 ?_
 refine zid (fun b37 g38 => ?_) fun b37 g99 => ?_
 ·refine Zp <| ztn <| Z9 <| Zh <| zsl <| wv 40 (.slice pa L.length pc) <| wv 41 (vi L.length) <| wv 42 (vi 0) <| znt <| Zh ?_
  refine ZB ([14] ++ List.range' 42 39) (fun F_ W_ m_ => ∃ (j : Nat), F_ 42 = (vi j) ∧ (j ≤ L.length) ∧ (∀ q_, q_ < j → (decide ((L.getD q_ pr0).r = (a : Int)) && decide ((L.getD q_ pr0).e = E) && decide ((L.getD q_ pr0).f = T)) = false) ∧ Sat w [zR w, Z0 b2 36 (Z46 F c E last vg na OO.length nc), Z0 b6 47 (Z31), Z0 b10 47 (Z9g E T ca D.length cc), (Z5d ca D cc)] W_ ∧ m_ = L.length - j) _ ⟨0, (show ((vi 0) : Value) = _ by first | rfl | go_num), (Nat.zero_le _), (fun _ h => absurd h (Nat.not_lt_zero _)), H35, rfl⟩ ?_
  rintro g40 w41 _ ⟨j, v43, hj, hallj, H42, rfl⟩
  refine Zn 42 _ v43 ?_
  refine zsl <| wv 43 (.bool (decide ((j : Int) < L.length))) <| znt <| Z9 ?_
  refine zid (fun b45 g46 => ?_) fun b45 g97 => ?_
  ·refine Zp <| ztn <| Z9 <| Zh <| zsl <| wv 44 (vi j) <| wv 14 (vi j) <| znt <| Z9 <| zqs H42 ?_
   refine qv 45 (.slice pa L.length pc) <| qv 46 (vi j) ?_
   obtain ⟨g48, o49, c50, e51, R52⟩ := SliceOf.atD hL pr0 (show j < L.length by omega)
   refine qv 47 (.pointer (some ⟨g48, o49 + ((j : Int)).toNat * 6, none⟩)) ?_ (hr := fun _ H' => (Z8 (E := 71) kr kr kn rfl e51 rfl om om))
   refine qv 48 (.pointer (some ⟨g48, o49 + ((j : Int)).toNat * 6, none⟩)) <| qv 49 (vi ((L.getD j pr0).r)) ?_ (hr := fun _ H' => (zl1 (H'.cellR 0 rfl (Z0f R52 0 kr (show o49 + ((j : Int)).toNat * 6 = o49 + j * 6 + 0 by omega)) (fun h => h))))
   refine qv 50 (vi a) <| qv 51 (.bool (decide (((L.getD j pr0).r) = (a : Int)))) <| qv 52 (.bool (decide (((L.getD j pr0).r) = (a : Int)))) ?_
   refine ziq 52 (fun b53 g54 => ?_) fun b53 g93 => ?_
   ·refine qy 7 52 true 53 (.slice pa L.length pc) <| qy 7 52 true 54 (vi j) <| qy 7 52 true 55 (.pointer (some ⟨g48, o49 + ((j : Int)).toNat * 6, none⟩)) ?_ (hr := fun _ H' => (Z8 (E := 71) kr kr kn rfl e51 rfl om om))
    refine qy 7 52 true 56 (.pointer (some ⟨g48, o49 + ((j : Int)).toNat * 6 + 1, none⟩)) <| qy 7 52 true 57 (vi ((L.getD j pr0).e)) ?_ (hr := fun _ H' => (zl1 (H'.cellR 0 rfl (Z0f R52 1 kr (show o49 + ((j : Int)).toNat * 6 + 1 = o49 + j * 6 + 1 by omega)) (fun h => h))))
    refine qy 7 52 true 58 (pt b2 2) <| qy 7 52 true 59 (vi E) ?_ (hr := fun _ H' => (zl1 (H'.cell 1 rfl rfl)))
    refine qy 7 52 true 60 (.bool (decide (((L.getD j pr0).e) = E))) <| qv 61 (.bool (decide (((L.getD j pr0).e) = E))) <| qv 62 (.bool (decide (((L.getD j pr0).e) = E))) ?_
    refine ziq 62 (fun b56 g57 => ?_) fun b56 g89 => ?_
    ·refine qy 17 62 true 63 (.slice pa L.length pc) <| qy 17 62 true 64 (vi j) <| qy 17 62 true 65 (.pointer (some ⟨g48, o49 + ((j : Int)).toNat * 6, none⟩)) ?_ (hr := fun _ H' => (Z8 (E := 71) kr kr kn rfl e51 rfl om om))
     refine qy 17 62 true 66 (.pointer (some ⟨g48, o49 + ((j : Int)).toNat * 6 + 2, none⟩)) <| qy 17 62 true 67 (vu ((L.getD j pr0).f)) ?_ (hr := fun _ H' => (zl1 (H'.cellR 0 rfl (Z0f R52 2 kr (show o49 + ((j : Int)).toNat * 6 + 2 = o49 + j * 6 + 2 by omega)) (fun h => h))))
     refine qy 17 62 true 68 (vu T) <| qy 17 62 true 69 (.bool (decide (((L.getD j pr0).f) = T))) <| qv 70 (.bool (decide (((L.getD j pr0).f) = T))) <| Z01 fun w59 H60 => ?_
     apply ztn
     refine zid (fun b61 g62 => ?_) fun b61 g87 => ?_
     ·refine Z9 <| Z0Z H60 [zR w, Z0 b2 36 (Z46 F c E last vg na OO.length nc), Z0 b6 47 (Z31), Z0 b10 47 (Z9g E T ca D.length cc)] [9] 10 rfl kr (fun Hx => (Hx.pk [0, 1, 2, 3])) fun w64 H65 S66 => ?_
      refine zkp 0 S66 71 (pt b10 2) <| zkv 1 S66 72 (.slice ca D.length cc) ?_ (he := fun _ H' => (zl1 (H'.cell 3 rfl rfl)))
      refine zkp 2 S66 73 (.slice pa L.length pc) <| zkp 3 S66 74 (vi j) <| Z2s 4 rfl kr kr kr (fun _ _ _ h => h) S66 (Zc rfl) rfl (d := 75) (v := (.pointer (some ⟨g48, o49 + ((j : Int)).toNat * 6, none⟩))) rfl (fun _ => (Z8 (E := 71) kr kr kn rfl e51 rfl om om)) ?_
      refine zkv 5 S66 76 (.agg ⟨(Z8I (L.getD j pr0) ((L.getD j pr0).C.length))⟩) ?_ (he := fun _ H' => (ZX (vs := (Z8I (L.getD j pr0) ((L.getD j pr0).C.length))) rfl kr kr kn (H'.runR 0 rfl (Z08 R52 0 kr (show o49 + ((j : Int)).toNat * 6 = o49 + j * 6 + 0 by omega)) (fun h => h))))
      refine zky 6 ?_
      refine Z2z 71 6 64 (.agg ⟨([(vi 0), (vi 0), (vu 0), (.slice none 0 0), (vi 0), (vi 0)] : LV)⟩) [(0, (.agg ⟨(Z8I (L.getD j pr0) ((L.getD j pr0).C.length))⟩))] (Z8I (L.getD j pr0) ((L.getD j pr0).C.length)) H65 ?_
      intro b68 w69 H70
      have H71 := H70.ct 5 rfl (Zo 71 6 (.slice (some ⟨b68, 0, none⟩) 1 1) 1 ([(L.getD j pr0)].flatMap Z0T)) (by rw [(show ((Z8I (L.getD j pr0) ((L.getD j pr0).C.length)) : LV) = [(L.getD j pr0)].flatMap Z0T by kernel_rfl)])
      have S72 := H71.pk [0, 1, 2, 3]
      refine ke S72 <| zky 7 ?_
      refine Z0t (T := 41) (e := 71) (size := 6) (bytes := 64) rfl H71 kr 4 5 rfl rfl rfl rfl (Z0q Z0T Z6e [(L.getD j pr0)]) om om ?_
      intro v74 w75 H76
      have H79 := H76.ct 4 rfl (Zo 71 6 v74 ((D ++ [(L.getD j pr0)]).length) ((D ++ [(L.getD j pr0)]).flatMap Z0T)) ja
      obtain ⟨a77, c78, rfl⟩ := Z3 (H79.at 4 rfl)
      have S80 := H79.pk [0, 1, 2, 3]
      refine ke S80 <| zkp 8 S80 79 (pt b10 2) <| Z2B 9 (Sat w [zR w, Z0 b2 36 (Z46 F c E last vg na OO.length nc), Z0 b6 47 (Z31)]) rfl kr (Zc rfl) rfl (fun Kq kq => ?_)
      refine zds ([(.slice a77 ((D ++ [(L.getD j pr0)]).length) c78)] : LV) (Z9g E T a77 ((D ++ [(L.getD j pr0)]).length) c78) H79 3 ?_
      intro w82 H83
      have S85 := H83.pk [0, 1, 2]
      refine kq _ _ S85 <| zhf <| ztn <| Z8T <| Z8f rfl ?_
      refine Z4g <| Z5a <| Z70 <| Z6 <| ztn <| ZG <| wv 38 (vi a) <| zwi 39 ((a : Int) + 1) <| wv 13 (vi ((a : Int) + 1)) <| ZL ?_
      have hyes : (decide ((L.getD j pr0).r = (a : Int)) && decide ((L.getD j pr0).e = E) && decide ((L.getD j pr0).f = T)) = true := by simp only [b45, b53, b56, b61, bls]
      have hg : prG L E T (a : Int) = some (L.getD j pr0) := Z6S hallj om hyes
      have H86 := H83.pk [0, 1, 2, 3, 4]
      refine Za ?_ _ ⟨(a + 1), a77, c78, (D ++ [(L.getD j pr0)]), rfl, om, (Zdu hD hg), (by first | omega | (simp only [List.length_append, List.length_cons, List.length_nil]; omega)), H86, rfl⟩ om
      exact zs
     refine Zp <| Z6 <| ztn <| ZG <| zwi 80 ((j : Int) + 1) <| wv 42 (vi ((j : Int) + 1)) <| ZL ?_
     have hno : (decide ((L.getD j pr0).r = (a : Int)) && decide ((L.getD j pr0).e = E) && decide ((L.getD j pr0).f = T)) = false := by simp only [b45, b53, b56, b61, bls]
     refine Za ?_ _ ⟨(j + 1), rfl, om, (fun q_ hq_ => by rcases Nat.lt_or_ge q_ j with h | h; exact hallj q_ h; rw [show q_ = j by omega]; exact hno), H60, rfl⟩ om
     exact zs
    iterate 7 refine qn 17 62 true ?_
    refine qv 70 (.bool false) <| Z01 fun w91 H92 => ?_
    refine ztn <| Z2h rfl ?_
    refine Zp <| Z6 <| ztn <| ZG <| zwi 80 ((j : Int) + 1) <| wv 42 (vi ((j : Int) + 1)) <| ZL ?_
    have hno : (decide ((L.getD j pr0).r = (a : Int)) && decide ((L.getD j pr0).e = E) && decide ((L.getD j pr0).f = T)) = false := by simp only [b45, b53, b56, bls]
    refine Za ?_ _ ⟨(j + 1), rfl, om, (fun q_ hq_ => by rcases Nat.lt_or_ge q_ j with h | h; exact hallj q_ h; rw [show q_ = j by omega]; exact hno), H92, rfl⟩ om
    exact zs
   iterate 8 refine qn 7 52 true ?_
   refine qv 61 (.bool false) <| qv 62 (.bool false) ?_
   iterate 7 refine qn 17 62 true ?_
   refine qv 70 (.bool false) <| Z01 fun w95 H96 => ?_
   refine ztn <| Z2h rfl ?_
   refine Zp <| Z6 <| ztn <| ZG <| zwi 80 ((j : Int) + 1) <| wv 42 (vi ((j : Int) + 1)) <| ZL ?_
   have hno : (decide ((L.getD j pr0).r = (a : Int)) && decide ((L.getD j pr0).e = E) && decide ((L.getD j pr0).f = T)) = false := by simp only [b45, b53, bls]
   refine Za ?_ _ ⟨(j + 1), rfl, om, (fun q_ hq_ => by rcases Nat.lt_or_ge q_ j with h | h; exact hallj q_ h; rw [show q_ = j by omega]; exact hno), H96, rfl⟩ om
   exact zs
  refine zxb <| Z6 <| ztn <| ZG <| wv 38 (vi a) <| zwi 39 ((a : Int) + 1) <| wv 13 (vi ((a : Int) + 1)) <| ZL ?_
  have hg : prG L E T (a : Int) = none := Z3D (d := pr0) (fun q_ hq_ => hallj q_ om)
  refine Za ?_ _ ⟨(a + 1), ca, cc, D, rfl, om, (Zdw hD hg), (by first | omega | (simp only [List.length_append, List.length_cons, List.length_nil]; omega)), H42, rfl⟩ om
  exact zs
 refine zxb <| ztn <| Z9 <| Z9 ?_
 have hDt : D = (Z5E L E T n).take Q := Zdy hD om om om
 refine zqs H35 ?_
 refine qv 81 (pt b10 2) <| qv 82 (.slice ca D.length cc) ?_ (hr := fun _ H' => (zl1 (H'.cell 3 rfl rfl)))
 refine Z4a (Zc rfl) (d := 83) (v := (vi D.length)) rfl (fun _ H' => kr) ?_
 refine qv 84 (pt b2 0) <| qv 85 (.agg ⟨(Z7D F c)⟩) ?_ (hr := fun _ H' => (zlN (vs := (Z7D F c)) (H'.at 1 rfl)))
 refine Z0r (Zc rfl) (d := 86) (v := (vi (2 * F + 1))) rfl (fun _ _ => by kernel_rfl) (fun w' H' => (Z5R w' F c om).mono fun _ _ h => ⟨h.1, H'.keepU h.2⟩) ?_
 refine qv 87 (.bool (decide ((D.length : Int) < (2 * F + 1)))) <| Z01 fun w101 H102 => ?_
 apply ztn
 refine zid (fun b103 g104 => ?_) fun b103 g110 => ?_
 ·refine zsl <| wv 88 (.agg ⟨(Z31)⟩) <| zy <| Z1S (Z31) H102 2 fun w107 H108 => ?_
  refine kk <| wv 11 (.bool false) <| znt <| Zk <| Z4 <| Z8l rfl (Z02 (vs := (Z31)) rfl kr kr kn (H108.at 2 rfl) kr) (Z0S (v := (.bool false)) rfl) ?_
  exact .inl ⟨by rw [← hDt]; omega, rfl, H108.upd 0 rfl [] ne⟩
 refine Zp <| ztn <| Z9 <| Z9 ?_
 have H112 := H102.addNil 86 34
 have H113 := H112.addNil 89 2
 refine ZG <| wv 89 (pt b2 5) <| zw1 90 (.slice na OO.length nc) (H113.cell 1 rfl rfl) <| wv 91 (vi OO.length) <| wv 92 (vi 0) <| znt <| Zh <| ZB ([15, 16, 17, 18, 19] ++ List.range' 92 94) (fun F_ W_ m_ => ∃ (k : Nat) (oa : Option Addr) (oc : Nat) (OD : List OpR) (za : Option Addr) (zc : Nat) (TD : List TbR), F_ 92 = (vi k) ∧ (k ≤ OO.length) ∧ (OD = Zbp OS (OO.take k)) ∧ (TD = Zcb OS TS (OO.take k)) ∧ Sat w [zR w, Z0 b2 36 (Z46 F c E last vg na OO.length nc), Z0 b6 47 (Z31), Z0 b10 47 (Z4N E T ca D.length cc oa OD.length oc za TD.length zc), (Z5d ca D cc), (Z7h oa OD oc), (Zai za TD zc)] W_ ∧ m_ = OO.length - k) _ ⟨0, none, 0, [], none, 0, [], (show ((vi 0) : Value) = _ by first | rfl | go_num), (Nat.zero_le _), rfl, rfl, H113, rfl⟩ ?_
 rintro g114 w115 _ ⟨k, oa, oc, OD, za, zc, TD, v117, hk, hO, hT, H116, rfl⟩
 refine Zn 92 _ v117 ?_
 have hOl := Zea hO
 have hTl := Zea hT
 refine zsl <| wv 93 (.bool (decide ((k : Int) < OO.length))) <| znt <| Z9 ?_
 refine zid (fun b119 g120 => ?_) fun b119 g257 => ?_
 ·refine Zp <| ztn <| Z9 <| Zh <| zsl <| wv 94 (vi k) <| wv 15 (vi k) <| znt <| Z9 ?_
  have hk2 : k < OO.length := by omega
  refine ZG <| wv 16 (.bool false) <| znt <| Z9 <| zsl <| wv 95 (.slice qa OS.length qc) <| wv 96 (vi OS.length) <| wv 97 (vi 0) <| znt <| Zh ?_
  refine ZB ([16, 17, 18] ++ List.range' 97 51) (fun F_ W_ m_ => ∃ (j : Nat), F_ 97 = (vi j) ∧ F_ 16 = (.bool false) ∧ (j ≤ OS.length) ∧ (∀ q_, q_ < j → (decide ((OS.getD q_ op0).i = (OO.getD k Z0i).i) && decide (((OS.getD q_ op0).P.length : Int) ≤ 256) && decide ((OO.getD k Z0i).h = Z0E (ofT (OO.getD k Z0i).cl (OO.getD k Z0i).sq (OS.getD q_ op0).h (OS.getD q_ op0).P))) = false) ∧ Sat w [zR w, Z0 b2 36 (Z46 F c E last vg na OO.length nc), Z0 b6 47 (Z31), Z0 b10 47 (Z4N E T ca D.length cc oa OD.length oc za TD.length zc), (Z5d ca D cc), (Z7h oa OD oc), (Zai za TD zc)] W_ ∧ m_ = OS.length - j) _ ⟨0, (show ((vi 0) : Value) = _ by first | rfl | go_num), (by first | rfl | go_num), (Nat.zero_le _), (fun _ h => absurd h (Nat.not_lt_zero _)), H116, rfl⟩ ?_
  rintro g122 w123 _ ⟨j, v125, v126, hj, hallj, H124, rfl⟩
  refine Zn 97 _ v125 ?_
  refine Zn 16 _ v126 ?_
  refine zsl <| wv 98 (.bool (decide ((j : Int) < OS.length))) <| znt <| Z9 ?_
  refine zid (fun b128 g129 => ?_) fun b128 g203 => ?_
  ·refine Zp <| ztn <| Z9 <| Zh <| zsl <| wv 99 (vi j) <| wv 17 (vi j) <| Z1a <| wv 100 (.slice qa OS.length qc) <| wv 101 (vi j) ?_
   obtain ⟨g131, o132, c133, e134, R135⟩ := SliceOf.atD hOS op0 (show j < OS.length by omega)
   refine wv 102 (.pointer (some ⟨g131, o132 + ((j : Int)).toNat * 34, none⟩)) ?_ (hr := Z8 (E := 86) kr kr kn rfl e134 rfl om om)
   refine wv 103 (.agg ⟨(Z3z (OS.getD j op0) ((OS.getD j op0).P.length))⟩) ?_ (hr := ZX (vs := (Z3z (OS.getD j op0) ((OS.getD j op0).P.length))) rfl kr kr kn (H124.runR 0 rfl (Z08 R135 0 kr (show o132 + ((j : Int)).toNat * 34 = o132 + j * 34 + 0 by omega)) (fun h => h)))
   refine zy <| zda (([(vi 0), (.slice none 0 0)] : LV) ++ hc Zz) H124 fun b137 w138 H139 => ?_
   refine kk <| zy <| Z1S (Z3z (OS.getD j op0) ((OS.getD j op0).P.length)) H139 7 fun w141 H142 => ?_
   refine kk <| znt <| Z9 <| zqs H142 ?_
   refine qv 104 (pt b137 0) <| qv 105 (vi ((OS.getD j op0).i)) ?_ (hr := fun _ H' => (zl1 (H'.cell 7 rfl kr)))
   refine qv 106 (pt b2 5) <| qv 107 (.slice na OO.length nc) ?_ (hr := fun _ H' => (zl1 (H'.cell 1 rfl rfl)))
   refine qv 108 (vi k) ?_
   obtain ⟨g144, o145, c146, e147, R148⟩ := SliceOf.atD hOO Z0i (show k < OO.length by omega)
   refine qv 109 (.pointer (some ⟨g144, o145 + ((k : Int)).toNat * 36, none⟩)) ?_ (hr := fun _ H' => (Z8 (E := 102) kr kr kn rfl e147 rfl om om))
   refine qv 110 (.pointer (some ⟨g144, o145 + ((k : Int)).toNat * 36, none⟩)) <| qv 111 (vi ((OO.getD k Z0i).i)) ?_ (hr := fun _ H' => (zl1 (H'.cellR 0 rfl (Z0f R148 0 kr (show o145 + ((k : Int)).toNat * 36 = o145 + k * 36 + 0 by omega)) (fun h => h))))
   refine qv 112 (.bool (decide (((OS.getD j op0).i) = ((OO.getD k Z0i).i)))) <| qv 113 (.bool (decide (((OS.getD j op0).i) = ((OO.getD k Z0i).i)))) ?_
   refine ziq 113 (fun b149 g150 => ?_) fun b149 g198 => ?_
   ·refine qy 9 113 true 114 (pt b137 1) <| qy 9 113 true 115 (.slice (OS.getD j op0).pa (OS.getD j op0).P.length (OS.getD j op0).pc) ?_ (hr := fun _ H' => (zl1 (H'.cell 7 rfl kr)))
    refine Z4a (Z05 9 113 true rfl kr rfl kr) (d := 116) (v := (vi ((OS.getD j op0).P.length : Int))) rfl (fun _ H' => kr) ?_
    refine qy 9 113 true 117 (.bool (decide (((OS.getD j op0).P.length : Int) ≤ 256))) <| qv 118 (.bool (decide (((OS.getD j op0).P.length : Int) ≤ 256))) <| qv 119 (.bool (decide (((OS.getD j op0).P.length : Int) ≤ 256))) ?_
    refine ziq 119 (fun b152 g153 => ?_) fun b152 g193 => ?_
    ·refine qy 15 119 true 120 (pt b2 5) <| qy 15 119 true 121 (.slice na OO.length nc) ?_ (hr := fun _ H' => (zl1 (H'.cell 1 rfl rfl)))
     refine qy 15 119 true 122 (vi k) <| qy 15 119 true 123 (.pointer (some ⟨g144, o145 + ((k : Int)).toNat * 36, none⟩)) ?_ (hr := fun _ H' => (Z8 (E := 102) kr kr kn rfl e147 rfl om om))
     refine qy 15 119 true 124 (.pointer (some ⟨g144, o145 + ((k : Int)).toNat * 36 + 1, none⟩)) <| qy 15 119 true 125 (.pointer (some ⟨g144, o145 + ((k : Int)).toNat * 36 + 1 + 2, none⟩)) <| qy 15 119 true 126 (.agg ⟨(hc (OO.getD k Z0i).h)⟩) ?_ (hr := fun _ H' => (ZX (vs := (hc (OO.getD k Z0i).h)) rfl kr kr kn (H'.runR 0 rfl (Z08 R148 3 kr (show o145 + ((k : Int)).toNat * 36 + 1 + 2 = o145 + k * 36 + 3 by omega)) (fun h => h))))
     refine qy 15 119 true 127 (pt b2 5) <| qy 15 119 true 128 (.slice na OO.length nc) ?_ (hr := fun _ H' => (zl1 (H'.cell 1 rfl rfl)))
     refine qy 15 119 true 129 (vi k) <| qy 15 119 true 130 (.pointer (some ⟨g144, o145 + ((k : Int)).toNat * 36, none⟩)) ?_ (hr := fun _ H' => (Z8 (E := 102) kr kr kn rfl e147 rfl om om))
     refine qy 15 119 true 131 (.pointer (some ⟨g144, o145 + ((k : Int)).toNat * 36 + 1, none⟩)) <| qy 15 119 true 132 (.pointer (some ⟨g144, o145 + ((k : Int)).toNat * 36 + 1, none⟩)) <| qy 15 119 true 133 (.agg ⟨([(vi ((OO.getD k Z0i).cl)), (vi ((OO.getD k Z0i).sq))] : LV)⟩) ?_ (hr := fun _ H' => (ZX (vs := ([(vi ((OO.getD k Z0i).cl)), (vi ((OO.getD k Z0i).sq))] : LV)) rfl kr kr kn (H'.runR 0 rfl (Z08 R148 1 kr (show o145 + ((k : Int)).toNat * 36 + 1 = o145 + k * 36 + 1 by omega)) (fun h => h))))
     refine qy 15 119 true 134 (.agg ⟨(Z3z (OS.getD j op0) ((OS.getD j op0).P.length))⟩) ?_ (hr := fun _ H' => (zlN (vs := (Z3z (OS.getD j op0) ((OS.getD j op0).P.length))) (H'.at 7 rfl)))
     refine Z0r (Z05 15 119 true rfl kr rfl kr) (d := 135) (v := (.bool (decide ((OO.getD k Z0i).h = Z0E (ofT (OO.getD k Z0i).cl (OO.getD k Z0i).sq (OS.getD j op0).h (OS.getD j op0).P))))) rfl (fun _ _ => by kernel_rfl) (fun w' H' => (Z4z w' (OO.getD k Z0i).h (OS.getD j op0).i (OO.getD k Z0i).cl (OO.getD k Z0i).sq (OS.getD j op0).h (OS.getD j op0).pa (OS.getD j op0).pc (OS.getD j op0).P (ListAt.now H' 0 rfl (hoL j om)) (hSp k om).1 (hSp k om).2 (hlo j om)).mono fun _ _ h => ⟨h.1, H'.keepU h.2⟩) ?_
     refine qv 136 (.bool (decide ((OO.getD k Z0i).h = Z0E (ofT (OO.getD k Z0i).cl (OO.getD k Z0i).sq (OS.getD j op0).h (OS.getD j op0).P)))) <| Z01 fun w155 H156 => ?_
     apply ztn
     refine zid (fun b157 g158 => ?_) fun b157 g190 => ?_
     ·refine Z9 <| zsl <| wv 137 (pt b10 3) <| zw1 138 (.slice oa OD.length oc) (H156.cell 3 rfl rfl) <| wv 139 (vi OD.length) <| wv 140 (.bool (decide ((OD.length : Int) < 64))) <| znt ?_
      have b160 : (decide ((OD.length : Int) < 64)) = true := by exact decide_eq_true om
      have g161 := of_decide_eq_true b160
      refine Z48 _ b160 ?_
      refine ZG <| wv 141 (pt b10 3) <| zw1 142 (.slice oa OD.length oc) (H156.cell 3 rfl rfl) <| zwN 143 (Z3z (OS.getD j op0) ((OS.getD j op0).P.length)) (H156.at 7 rfl) <| zy <| Z2z 86 34 64 (.agg ⟨(([(vi 0), (.slice none 0 0)] : LV) ++ hc Zz)⟩) [(0, (.agg ⟨(Z3z (OS.getD j op0) ((OS.getD j op0).P.length))⟩))] (Z3z (OS.getD j op0) ((OS.getD j op0).P.length)) H156 fun b163 w164 H165 => ?_
      have H166 := H165.ct 8 rfl (Zo 86 34 (.slice (some ⟨b163, 0, none⟩) 1 1) 1 ([(OS.getD j op0)].flatMap Z0J)) (by rw [(show ((Z3z (OS.getD j op0) ((OS.getD j op0).P.length)) : LV) = [(OS.getD j op0)].flatMap Z0J by kernel_rfl)])
      refine kk <| zy <| Z0t (T := 42) (e := 86) (size := 34) (bytes := 64) rfl H166 kr 5 8 rfl rfl rfl rfl (Z0q Z0J Z4n [(OS.getD j op0)]) om om fun v168 w169 H170 => ?_
      have H173 := H170.ct 5 rfl (Zo 86 34 v168 ((OD ++ [(OS.getD j op0)]).length) ((OD ++ [(OS.getD j op0)]).flatMap Z0J)) ja
      obtain ⟨a171, c172, rfl⟩ := Z3 (H173.at 5 rfl)
      refine kk <| wv 146 (pt b10 3) <| zy <| zds ([(.slice a171 ((OD ++ [(OS.getD j op0)]).length) c172)] : LV) (Z4N E T ca D.length cc a171 ((OD ++ [(OS.getD j op0)]).length) c172 za TD.length zc) H173 3 fun w175 H176 => ?_
      refine kk <| Z1a <| wv 16 (.bool true) <| znt <| Z8T <| Z8f rfl ?_
      refine Z4g <| Z5a <| Z70 <| ztn <| zsl <| wv 19 (vi 0) <| znt <| Zh <| ZB ([19] ++ List.range' 148 37) (fun F_ W_ m_ => ∃ (m : Nat), F_ 19 = (vi m) ∧ (m ≤ TS.length) ∧ (∀ q_, q_ < m → (decide ((TS.getD q_ tb0).i = (OO.getD k Z0i).i)) = false) ∧ Sat w [zR w, Z0 b2 36 (Z46 F c E last vg na OO.length nc), Z0 b6 47 (Z31), Z0 b10 47 (Z4N E T ca D.length cc a171 ((OD ++ [(OS.getD j op0)]).length) c172 za TD.length zc), (Z5d ca D cc), (Z7h a171 (OD ++ [(OS.getD j op0)]) c172), (Zai za TD zc), Z0 b137 86 (Z3z (OS.getD j op0) ((OS.getD j op0).P.length)), Zo 86 34 (.slice (some ⟨b163, 0, none⟩) 1 1) 1 ([(OS.getD j op0)].flatMap Z0J)] W_ ∧ m_ = TS.length - m) _ ⟨0, (show ((vi 0) : Value) = _ by first | rfl | go_num), (Nat.zero_le _), (fun _ h => absurd h (Nat.not_lt_zero _)), H176, rfl⟩ ?_
      rintro g178 w179 _ ⟨m, v181, hm, hallm, H180, rfl⟩
      refine Zn 19 _ v181 ?_
      refine Z9 <| zsl <| wv 148 (vi m) <| wv 149 (.slice ta TS.length tc) <| wv 150 (vi TS.length) <| wv 151 (.bool (decide ((m : Int) < TS.length))) <| wv 152 (.bool (decide ((m : Int) < TS.length))) ?_
      refine zil 152 (fun b183 g184 => ?_) fun b183 g187 => ?_
      ·refine wy 4 152 true 153 (.bool true) <| wy 4 152 true 154 (.bool false) <| wv 155 (.bool false) <| wv 156 (.bool false) ?_
       iterate 4 refine wn 8 156 true ?_
       refine wv 161 (.bool false) <| znt <| Z2h rfl ?_
       refine zxb <| Z6 <| ztn <| ZG <| zwi 185 ((k : Int) + 1) <| wv 92 (vi ((k : Int) + 1)) <| ZL ?_
       have hyes : (decide ((OS.getD j op0).i = (OO.getD k Z0i).i) && decide (((OS.getD j op0).P.length : Int) ≤ 256) && decide ((OO.getD k Z0i).h = Z0E (ofT (OO.getD k Z0i).cl (OO.getD k Z0i).sq (OS.getD j op0).h (OS.getD j op0).P))) = true := by simp only [b128, b149, b152, b157, b160, bls]
       have hg : opG OS (OO.getD k Z0i) = some (OS.getD j op0) := Z6S hallj om hyes
       have hgt : tbG OS TS (OO.getD k Z0i) = none := by unfold tbG; rw [hg]; rfl
       have H186 := H180.pk [0, 1, 2, 3, 4, 5, 6]
       refine Za ?_ _ ⟨(k + 1), a171, c172, (OD ++ [(OS.getD j op0)]), za, zc, TD, rfl, om, (Z9t hO hk2 hg), (Z6B hT hk2 hgt), H186, rfl⟩ om
       exact zs
      iterate 2 refine wn 4 152 true ?_
      refine wv 155 (.bool false) <| wv 156 (.bool false) ?_
      iterate 4 refine wn 8 156 true ?_
      refine wv 161 (.bool false) <| znt <| Z2h rfl ?_
      refine zxb <| Z6 <| ztn <| ZG <| zwi 185 ((k : Int) + 1) <| wv 92 (vi ((k : Int) + 1)) <| ZL ?_
      have hyes : (decide ((OS.getD j op0).i = (OO.getD k Z0i).i) && decide (((OS.getD j op0).P.length : Int) ≤ 256) && decide ((OO.getD k Z0i).h = Z0E (ofT (OO.getD k Z0i).cl (OO.getD k Z0i).sq (OS.getD j op0).h (OS.getD j op0).P))) = true := by simp only [b128, b149, b152, b157, b160, bls]
      have hg : opG OS (OO.getD k Z0i) = some (OS.getD j op0) := Z6S hallj om hyes
      have hgt : tbG OS TS (OO.getD k Z0i) = none := by unfold tbG; rw [hg]; rfl
      have H189 := H180.pk [0, 1, 2, 3, 4, 5, 6]
      refine Za ?_ _ ⟨(k + 1), a171, c172, (OD ++ [(OS.getD j op0)]), za, zc, TD, rfl, om, (Z9t hO hk2 hg), (Z6B hT hk2 hgt), H189, rfl⟩ om
      exact zs
     refine Zp <| Z6 <| ztn <| ZG <| zwi 147 ((j : Int) + 1) <| wv 97 (vi ((j : Int) + 1)) <| ZL ?_
     have hno : (decide ((OS.getD j op0).i = (OO.getD k Z0i).i) && decide (((OS.getD j op0).P.length : Int) ≤ 256) && decide ((OO.getD k Z0i).h = Z0E (ofT (OO.getD k Z0i).cl (OO.getD k Z0i).sq (OS.getD j op0).h (OS.getD j op0).P))) = false := by simp only [b128, b149, b152, b157, bls]
     have H192 := H156.pk [0, 1, 2, 3, 4, 5, 6]
     refine Za ?_ _ ⟨(j + 1), rfl, rfl, om, (fun q_ hq_ => by rcases Nat.lt_or_ge q_ j with h | h; exact hallj q_ h; rw [show q_ = j by omega]; exact hno), H192, rfl⟩ om
     exact zs
    iterate 16 refine qn 15 119 true ?_
    refine qv 136 (.bool false) <| Z01 fun w195 H196 => ?_
    refine ztn <| Z2h rfl ?_
    refine Zp <| Z6 <| ztn <| ZG <| zwi 147 ((j : Int) + 1) <| wv 97 (vi ((j : Int) + 1)) <| ZL ?_
    have hno : (decide ((OS.getD j op0).i = (OO.getD k Z0i).i) && decide (((OS.getD j op0).P.length : Int) ≤ 256) && decide ((OO.getD k Z0i).h = Z0E (ofT (OO.getD k Z0i).cl (OO.getD k Z0i).sq (OS.getD j op0).h (OS.getD j op0).P))) = false := by simp only [b128, b149, b152, bls]
    have H197 := H196.pk [0, 1, 2, 3, 4, 5, 6]
    refine Za ?_ _ ⟨(j + 1), rfl, rfl, om, (fun q_ hq_ => by rcases Nat.lt_or_ge q_ j with h | h; exact hallj q_ h; rw [show q_ = j by omega]; exact hno), H197, rfl⟩ om
    exact zs
   iterate 4 refine qn 9 113 true ?_
   refine qv 118 (.bool false) <| qv 119 (.bool false) ?_
   iterate 16 refine qn 15 119 true ?_
   refine qv 136 (.bool false) <| Z01 fun w200 H201 => ?_
   refine ztn <| Z2h rfl ?_
   refine Zp <| Z6 <| ztn <| ZG <| zwi 147 ((j : Int) + 1) <| wv 97 (vi ((j : Int) + 1)) <| ZL ?_
   have hno : (decide ((OS.getD j op0).i = (OO.getD k Z0i).i) && decide (((OS.getD j op0).P.length : Int) ≤ 256) && decide ((OO.getD k Z0i).h = Z0E (ofT (OO.getD k Z0i).cl (OO.getD k Z0i).sq (OS.getD j op0).h (OS.getD j op0).P))) = false := by simp only [b128, b149, bls]
   have H202 := H201.pk [0, 1, 2, 3, 4, 5, 6]
   refine Za ?_ _ ⟨(j + 1), rfl, rfl, om, (fun q_ hq_ => by rcases Nat.lt_or_ge q_ j with h | h; exact hallj q_ h; rw [show q_ = j by omega]; exact hno), H202, rfl⟩ om
   exact zs
  refine zxb <| ztn <| zsl <| wv 19 (vi 0) <| znt <| Zh <| ZB ([19] ++ List.range' 148 37) (fun F_ W_ m_ => ∃ (m : Nat), F_ 19 = (vi m) ∧ (m ≤ TS.length) ∧ (∀ q_, q_ < m → (decide ((TS.getD q_ tb0).i = (OO.getD k Z0i).i)) = false) ∧ Sat w [zR w, Z0 b2 36 (Z46 F c E last vg na OO.length nc), Z0 b6 47 (Z31), Z0 b10 47 (Z4N E T ca D.length cc oa OD.length oc za TD.length zc), (Z5d ca D cc), (Z7h oa OD oc), (Zai za TD zc)] W_ ∧ m_ = TS.length - m) _ ⟨0, (show ((vi 0) : Value) = _ by first | rfl | go_num), (Nat.zero_le _), (fun _ h => absurd h (Nat.not_lt_zero _)), H124, rfl⟩ ?_
  rintro g205 w206 _ ⟨m, v208, hm, hallm, H207, rfl⟩
  refine Zn 19 _ v208 ?_
  refine Z9 <| zsl <| wv 148 (vi m) <| wv 149 (.slice ta TS.length tc) <| wv 150 (vi TS.length) <| wv 151 (.bool (decide ((m : Int) < TS.length))) <| wv 152 (.bool (decide ((m : Int) < TS.length))) ?_
  refine zil 152 (fun b210 g211 => ?_) fun b210 g255 => ?_
  ·refine wy 4 152 true 153 (.bool false) <| wy 4 152 true 154 (.bool true) <| wv 155 (.bool true) <| wv 156 (.bool true) <| wy 8 156 true 157 (pt b10 4) <| wy 8 156 true 158 (.slice za TD.length zc) ?_ (hr := zl1 (H207.cell 3 rfl rfl))
   refine wy 8 156 true 159 (vi TD.length) <| wy 8 156 true 160 (.bool (decide ((TD.length : Int) < 64))) <| wv 161 (.bool (decide ((TD.length : Int) < 64))) <| znt ?_
   have b213 : (decide ((TD.length : Int) < 64)) = true := by exact decide_eq_true om
   have g214 := of_decide_eq_true b213
   refine Z48 _ b213 ?_
   refine Zp <| ztn <| Z9 <| Zh <| Z9 <| zqs H207 ?_
   refine qv 164 (.slice ta TS.length tc) <| qv 165 (vi m) ?_
   obtain ⟨g215, o216, c217, e218, R219⟩ := SliceOf.atD hTS tb0 (show m < TS.length by omega)
   refine qv 166 (.pointer (some ⟨g215, o216 + ((m : Int)).toNat * 2, none⟩)) ?_ (hr := fun _ H' => (Z8 (E := 89) kr kr kn rfl e218 rfl om om))
   refine qv 167 (.pointer (some ⟨g215, o216 + ((m : Int)).toNat * 2, none⟩)) <| qv 168 (vi ((TS.getD m tb0).i)) ?_ (hr := fun _ H' => (zl1 (H'.cellR 0 rfl (Z0f R219 0 kr (show o216 + ((m : Int)).toNat * 2 = o216 + m * 2 + 0 by omega)) (fun h => h))))
   refine qv 169 (pt b2 5) <| qv 170 (.slice na OO.length nc) ?_ (hr := fun _ H' => (zl1 (H'.cell 1 rfl rfl)))
   refine qv 171 (vi k) ?_
   obtain ⟨g220, o221, c222, e223, R224⟩ := SliceOf.atD hOO Z0i (show k < OO.length by omega)
   refine qv 172 (.pointer (some ⟨g220, o221 + ((k : Int)).toNat * 36, none⟩)) ?_ (hr := fun _ H' => (Z8 (E := 102) kr kr kn rfl e223 rfl om om))
   refine qv 173 (.pointer (some ⟨g220, o221 + ((k : Int)).toNat * 36, none⟩)) <| qv 174 (vi ((OO.getD k Z0i).i)) ?_ (hr := fun _ H' => (zl1 (H'.cellR 0 rfl (Z0f R224 0 kr (show o221 + ((k : Int)).toNat * 36 = o221 + k * 36 + 0 by omega)) (fun h => h))))
   refine qv 175 (.bool (decide (((TS.getD m tb0).i) = ((OO.getD k Z0i).i)))) <| Z01 fun w225 H226 => ?_
   apply ztn
   refine zid (fun b227 g228 => ?_) fun b227 g253 => ?_
   ·refine Z9 <| Z0Z H226 [zR w, Z0 b2 36 (Z46 F c E last vg na OO.length nc), Z0 b6 47 (Z31), Z0 b10 47 (Z4N E T ca D.length cc oa OD.length oc za TD.length zc), (Z5d ca D cc), (Z7h oa OD oc)] [9] 10 rfl kr (fun Hx => (Hx.pk [0, 1, 2, 3, 4, 5])) fun w230 H231 S232 => ?_
    refine zkp 0 S232 176 (pt b10 4) <| zkv 1 S232 177 (.slice za TD.length zc) ?_ (he := fun _ H' => (zl1 (H'.cell 3 rfl rfl)))
    refine zkp 2 S232 178 (.slice ta TS.length tc) <| zkp 3 S232 179 (vi m) <| Z2s 4 rfl kr kr kr (fun _ _ _ h => h) S232 (Zc rfl) rfl (d := 180) (v := (.pointer (some ⟨g215, o216 + ((m : Int)).toNat * 2, none⟩))) rfl (fun _ => (Z8 (E := 89) kr kr kn rfl e218 rfl om om)) ?_
    refine zkv 5 S232 181 (.agg ⟨(Z6f (TS.getD m tb0) ((TS.getD m tb0).D.length))⟩) ?_ (he := fun _ H' => (ZX (vs := (Z6f (TS.getD m tb0) ((TS.getD m tb0).D.length))) rfl kr kr kn (H'.runR 0 rfl (Z08 R219 0 kr (show o216 + ((m : Int)).toNat * 2 = o216 + m * 2 + 0 by omega)) (fun h => h))))
    refine zky 6 ?_
    refine Z2z 89 2 32 (.agg ⟨([(vi 0), (.slice none 0 0)] : LV)⟩) [(0, (.agg ⟨(Z6f (TS.getD m tb0) ((TS.getD m tb0).D.length))⟩))] (Z6f (TS.getD m tb0) ((TS.getD m tb0).D.length)) H231 ?_
    intro b234 w235 H236
    have H237 := H236.ct 7 rfl (Zo 89 2 (.slice (some ⟨b234, 0, none⟩) 1 1) 1 ([(TS.getD m tb0)].flatMap Z16)) (by rw [(show ((Z6f (TS.getD m tb0) ((TS.getD m tb0).D.length)) : LV) = [(TS.getD m tb0)].flatMap Z16 by kernel_rfl)])
    have S238 := H237.pk [0, 1, 2, 3, 4, 5]
    refine ke S238 <| zky 7 ?_
    refine Z0t (T := 43) (e := 89) (size := 2) (bytes := 32) rfl H237 kr 6 7 rfl rfl rfl rfl (Z0q Z16 Z9j [(TS.getD m tb0)]) om om ?_
    intro v240 w241 H242
    have H245 := H242.ct 6 rfl (Zo 89 2 v240 ((TD ++ [(TS.getD m tb0)]).length) ((TD ++ [(TS.getD m tb0)]).flatMap Z16)) ja
    obtain ⟨a243, c244, rfl⟩ := Z3 (H245.at 6 rfl)
    have S246 := H245.pk [0, 1, 2, 3, 4, 5]
    refine ke S246 <| zkp 8 S246 184 (pt b10 4) <| Z2B 9 (Sat w [zR w, Z0 b2 36 (Z46 F c E last vg na OO.length nc), Z0 b6 47 (Z31), (Z5d ca D cc), (Z7h oa OD oc)]) rfl kr (Zc rfl) rfl (fun Kq kq => ?_)
    refine zds ([(.slice a243 ((TD ++ [(TS.getD m tb0)]).length) c244)] : LV) (Z4N E T ca D.length cc oa OD.length oc a243 ((TD ++ [(TS.getD m tb0)]).length) c244) H245 3 ?_
    intro w248 H249
    have S251 := H249.pk [0, 1, 2, 4, 5]
    refine kq _ _ S251 <| zhf <| ztn <| Z8T <| Z8f rfl ?_
    refine Z4g <| Z5a <| Z70 <| Z6 <| ztn <| ZG <| zwi 185 ((k : Int) + 1) <| wv 92 (vi ((k : Int) + 1)) <| ZL ?_
    have hg : opG OS (OO.getD k Z0i) = none := Z3D (d := op0) (fun q_ hq_ => hallj q_ om)
    have hgt : tbG OS TS (OO.getD k Z0i) = some (TS.getD m tb0) := by unfold tbG; rw [hg]; exact Z6S hallm om (by simp only [b210, b213, b227, bls])
    have H252 := H249.pk [0, 1, 2, 3, 4, 5, 6]
    refine Za ?_ _ ⟨(k + 1), oa, oc, OD, a243, c244, (TD ++ [(TS.getD m tb0)]), rfl, om, (Z6B hO hk2 hg), (Z9t hT hk2 hgt), H252, rfl⟩ om
    exact zs
   refine Zp <| Z6 <| ztn <| ZG <| wv 162 (vi m) <| zwi 163 ((m : Int) + 1) <| wv 19 (vi ((m : Int) + 1)) <| ZL ?_
   have hno : (decide ((TS.getD m tb0).i = (OO.getD k Z0i).i)) = false := by simp only [b210, b213, b227, bls]
   refine Za ?_ _ ⟨(m + 1), rfl, om, (fun q_ hq_ => by rcases Nat.lt_or_ge q_ m with h | h; exact hallm q_ h; rw [show q_ = m by omega]; exact hno), H226, rfl⟩ om
   exact zs
  iterate 2 refine wn 4 152 true ?_
  refine wv 155 (.bool false) <| wv 156 (.bool false) ?_
  iterate 4 refine wn 8 156 true ?_
  refine wv 161 (.bool false) <| znt <| Z2h rfl ?_
  refine zxb <| Z6 <| ztn <| ZG <| zwi 185 ((k : Int) + 1) <| wv 92 (vi ((k : Int) + 1)) <| ZL ?_
  have hg : opG OS (OO.getD k Z0i) = none := Z3D (d := op0) (fun q_ hq_ => hallj q_ om)
  have hgt : tbG OS TS (OO.getD k Z0i) = none := by unfold tbG; rw [hg]; exact Z3D (d := tb0) (fun q_ hq_ => hallm q_ om)
  refine Za ?_ _ ⟨(k + 1), oa, oc, OD, za, zc, TD, rfl, om, (Z6B hO hk2 hg), (Z6B hT hk2 hgt), H207, rfl⟩ om
  exact zs
 refine zxb <| ztn <| zsl <| zwN 186 (Z4N E T ca D.length cc oa OD.length oc za TD.length zc) (H116.at 3 rfl) <| zy <| Z1S (Z4N E T ca D.length cc oa OD.length oc za TD.length zc) H116 2 fun w260 H261 => ?_
 refine kk <| wv 11 (.bool true) <| znt <| Zk <| Z8l rfl (Z02 (vs := (Z4N E T ca D.length cc oa OD.length oc za TD.length zc)) rfl kr kr kn (H261.at 2 rfl) kr) (Z0S (v := (.bool true)) rfl) ?_
 have hkl : k = OO.length := by omega
 rw [hkl, List.take_length] at hO hT
 subst hO
 subst hT
 clear hD
 subst hDt
 exact .inr ⟨ca, cc, oa, oc, za, zc, by omega, rfl, H261.fn [4, 5, 6], H261.upd 0 rfl [] ne, H261.freshS 0 rfl (fun _ h => h) [4, 5, 6] rfl rfl⟩
end Go.Proofs.YtenihpghfdcpkaaGreat
