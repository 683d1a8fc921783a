/- WHAT IS PROVED: contracts and plain laws of NumsS. Conditions: stated with each. -/
import Derived.Test.YtenihpghfdcpkaaGreatPV02
import Derived.Test.YtenihpghfdcpkaaGreatPV05
import Derived.Test.YtenihpghfdcpkaaGreatPV06
import Derived.Test.YtenihpghfdcpkaaGreatPV07
import Derived.Test.YtenihpghfdcpkaaGreatPV17
set_option maxHeartbeats 4000000
set_option maxRecDepth 100000
namespace Go.Proofs.YtenihpghfdcpkaaGreat
open Go.RowKit
theorem Z8x {w w' : World} {b T : Nat} {v : Value} (h : (ZQ w fun _ => False).ok w') (hb : (Z0 b T [v]).ok w) : (Z0 b T [v]).ok w' := (h b (Z1v hb) (fun h => h)).trans hb
theorem Z8H (w : World) (va : Option Addr) (vn vc : Nat) :
  Calls Tryz.prog 126 #[(.slice va vn vc)] w fun e w' => ∃ b, e = .returned (.func (.func 179) #[] #[zp b]) ∧ (Z0 b 109 [(.slice va vn vc)]).ok w' ∧ Upd [] w w' ∧ w.heap.size ≤ b := by
 have H := Sat.start0 w
 refine Zg Tryz.func126 rfl 4 rfl kn ?_
 refine zsl <| zy <| zdb ([(.slice va vn vc)] : LV) H fun b2 w3 H4 => ?_
 refine kk <| wv 2 (Go.Value.nilFunc) <| Z1a <| wv 3 (.func (.func 179) #[] #[(pt b2 0)]) <| wv 2 (.func (.func 179) #[] #[(pt b2 0)]) <| znt <| Zk <| ze1 (.func (.func 179) #[] #[(pt b2 0)]) ?_
 exact ⟨b2, rfl, H4.at 1 rfl, H4.upd 0 rfl [] ne, H4.fresh 0 rfl (fun _ h => h) 1 rfl rfl b2 rfl⟩
theorem Z9X (w : World) (v : Value) (hv : ∃ a n c, v = .slice a n c) : Calls Tryz.prog 126 #[v] w fun e w' => ∃ b, e = .returned (.func (.func 179) #[] #[zp b]) ∧ (Z0 b 109 [v]).ok w' ∧ Upd [] w w' ∧ w.heap.size ≤ b := by
 obtain ⟨a, n, c, rfl⟩ := hv
 exact Z8H w a n c
theorem Z8F (w : World) (b : Nat) (v : Value) (xs : List Int) (hb : (Z0 b 109 [v]).ok w) (hv : ListAt Z4b 1 w v xs) (hx : xs.length ≤ 12) :
  Calls Tryz.prog 177 #[(.func (.func 179) #[] #[zp b])] w fun e w' => ∃ u, e = .returned u ∧ (Zo 25 1 u xs.length (xs.flatMap Z4b)).ok w' ∧ Upd [] w w' ∧ ∀ b, u.ownBlock = some b → w.heap.size ≤ b := by
 have H := Sat.start0 w
 refine Zg Tryz.func177 rfl 5 rfl kn ?_
 refine zsl <| wv 2 (.slice none 0 0) <| Z1a <| wv 3 (.func (.func 179) #[] #[(pt b 0)]) <| zy <| zdc 4 (Z7c w b v xs ((Z8x (H.at 0 rfl) hb)) (ListAt.now H 0 rfl hv) om) ?_
 rintro _ w2 ⟨u3, rfl, k4, p5, q6⟩
 have H7 := H.addU p5 k4 q6
 obtain ⟨a8, c9, rfl⟩ := Z3 (H7.at 1 rfl)
 refine ⟨_, rfl, ?_⟩
 refine kk <| wv 2 (.slice a8 xs.length c9) <| znt <| Zk <| ze1 (.slice a8 xs.length c9) ?_
 exact ⟨_, rfl, H7.at 1 rfl, H7.upd 0 rfl [] ne, H7.fresh 0 rfl (fun _ h => h) 1 rfl rfl⟩
theorem Z9q (w : World) (b : Nat) (v : Value) (xs : List Int) (hb : (Z0 b 109 [v]).ok w) (hv : ListAt Z4b 1 w v xs) (hx : xs.length ≤ 12) (h0 : 0 < xs.length) :
  Calls Tryz.prog 125 #[(.func (.func 179) #[] #[zp b])] w fun e w' => ∃ u B, e = .returned u ∧ (Zo 25 1 u B.length (B.flatMap Z4b)).ok w' ∧ Upd [] w w' ∧ (∀ k, u.ownBlock = some k → w.heap.size ≤ k) ∧ B.Perm xs ∧ Srt ltU 0 B.length B := by
 have H := Sat.start0 w
 refine Zg Tryz.func125 rfl 9 rfl kn ?_
 refine zsl <| wv 2 (.slice none 0 0) <| Z1a <| wv 4 (.func (.func 179) #[] #[(pt b 0)]) <| zy <| zdc 5 (Z8F w b v xs (Z8x (H.at 0 rfl) hb) (ListAt.now H 0 rfl hv) om) ?_
 rintro _ w2 ⟨u3, rfl, k4, p5, q6⟩
 have H7 := H.addU p5 k4 q6
 obtain ⟨a8, c9, rfl⟩ := Z3 (H7.at 1 rfl)
 refine ⟨_, rfl, ?_⟩
 refine kk <| wv 3 (.slice a8 xs.length c9) <| znt <| Z9 ?_
 obtain ⟨g10, c11, e12⟩ := Z1A (H7.at 1 rfl) om
 obtain rfl : a8 = some ⟨g10, 0, none⟩ := by cases e12; rfl
 have H13 := H7
 refine ZG <| wv 6 (.slice (some ⟨g10, 0, none⟩) xs.length c9) <| zy <| zdc 7 (Zb3 w2 g10 xs.length c9 xs (H13.at 1 rfl) om) ?_
 rintro _ w16 ⟨B15, rfl, l17, p18, s19, T20⟩
 have H21 := (Sat.turn1 (L' := [Z5K g10 xs.length c9 B15]) (R := [zR w]) H13 1 [0] (by decide) rfl rfl T20).pk [1, 0]
 refine ⟨_, rfl, ?_⟩
 refine kk <| Z1a <| wv 8 (.slice (some ⟨g10, 0, none⟩) xs.length c9) <| wv 2 (.slice (some ⟨g10, 0, none⟩) xs.length c9) <| znt <| Zk <| ze1 (.slice (some ⟨g10, 0, none⟩) xs.length c9) ?_
 exact ⟨_, B15, rfl, (by have q := H21.at 1 rfl; have e : (xs.length : Nat) = B15.length := l17.symm; unfold Z5K at q; rw [e] at q ⊢; exact q), H21.upd 0 rfl [] ne, H21.fresh 0 rfl (fun _ h => h) 1 rfl rfl, p18, s19⟩
theorem Zci (w : World) (va : Option Addr) (vc : Nat) (xs : List Int) (hxs : ListAt Z4b 1 w (.slice va xs.length vc) xs) (hx : xs.length ≤ 12) :
  Calls Tryz.prog 99 #[(.slice va xs.length vc)] w fun e w' => e = .returned (.tuple #[u6 (Z8L xs), .bool (decide (xs.length % 2 = 1))]) ∧ Upd [] w w' := by
 have H := Sat.start0 w
 refine Zg Tryz.func99 rfl 18 rfl kn ?_
 let A0 : Value := .slice va xs.length vc
 refine zsl <| wv 2 (vu 0) <| wv 3 (.bool false) <| znt <| Z9 <| zsl <| wv 5 A0 <| wv 6 (vi xs.length) <| wv 7 (vi ((xs.length : Int) % 2)) ?_ (hr := Z7E kr om om)
 refine wv 8 (.bool (decide (((xs.length : Int) % 2) = 0))) <| znt ?_
 refine zid (fun b1 g2 => ?_) fun b1 g4 => ?_
 ·refine zsl <| wv 2 (vu 0) <| wv 3 (.bool false) <| znt <| Zk <| Z4 <| ze2 (vu 0) (.bool false) ?_
  exact ⟨by rw [Z4k om, decide_eq_false (show ¬ xs.length % 2 = 1 by omega)], H.upd 0 rfl [] ne⟩
 refine Zp <| ztn <| zsl <| wv 9 A0 <| zy <| zdc 10 (Z9X w A0 ⟨_, _, _, rfl⟩) ?_
 rintro _ w8 ⟨b7, rfl, k9, p10, q11⟩
 have H12 := H.addU p10 k9 (fun _ h => h ▸ q11)
 refine ⟨_, rfl, ?_⟩
 refine kk <| zy <| zdc 11 (Z9q w8 b7 A0 xs (H12.at 1 rfl) (ListAt.now H12 0 rfl hxs) om om) ?_
 rintro _ w14 ⟨u15, B19, rfl, k16, p17, q18, p20, s21⟩
 have H22 := H12.addU p17 k16 q18
 obtain ⟨a23, c24, rfl⟩ := Z3 (H22.at 2 rfl)
 refine ⟨_, rfl, ?_⟩
 have hlB19 : B19.length = xs.length := p20.length_eq
 let A1 : Value := .slice a23 B19.length c24
 refine kk <| wv 4 A1 <| Z1a <| wv 12 A1 <| wv 13 A1 <| wv 14 (vi B19.length) <| wv 15 (vi ((B19.length : Int) / 2)) ?_ (hr := ZbR kr om om (IntWalk.i64_in _ om))
 obtain ⟨g25, c26, e27⟩ := Z1A (H22.at 2 rfl) om
 obtain ⟨x28, h29⟩ := Z2P (show ((B19.length : Int) / 2).toNat < B19.length by omega)
 refine wv 16 (.pointer (some ⟨g25, 0 + ((B19.length : Int) / 2).toNat * 1, none⟩)) ?_ (hr := Z1e (E := 25) kr kr kn rfl e27 rfl om om)
 refine zw1 17 (vu x28) (Z1U (H22.at 2 rfl) e27 Z2j h29 0 rfl (show 0 + ((B19.length : Int) / 2).toNat * 1 = ((B19.length : Int) / 2).toNat * 1 + 0 by omega) kr) <| wv 2 (vu x28) <| wv 3 (.bool true) <| znt <| Zk <| ze2 (vu x28) (.bool true) ?_
 have hm : Z8L xs = x28 := (Zcl p20).symm.trans (Z9u om (srt_le s21 (by rw [show B19.length / 2 = ((B19.length : Int) / 2).toNat by omega]; exact h29)))
 exact ⟨by rw [hm, decide_eq_true (show xs.length % 2 = 1 by omega)], H22.upd 0 rfl [] ne⟩
theorem Zda (w : World) (v : Value) (xs : List Int) (hxs : ListAt Z4b 1 w v xs) (hx : xs.length ≤ 12) : Calls Tryz.prog 99 #[v] w fun e w' => e = .returned (.tuple #[u6 (Z8L xs), .bool (decide (xs.length % 2 = 1))]) ∧ Upd [] w w' := by
 obtain ⟨a, c, rfl⟩ := hxs.len
 exact Zci w a c xs hxs hx
theorem ZbK (w : World) (va : Option Addr) (vc : Nat) (xs : List Int) (hxs : ListAt Z4b 1 w (.slice va xs.length vc) xs) (hx : xs.length ≤ 12) :
  Calls Tryz.prog 65 #[(.slice va xs.length vc)] w fun e w' => e = .returned (.tuple #[u6 (Z8L xs), .bool (decide (xs.length % 2 = 1))]) ∧ Upd [] w w' := by
 have H := Sat.start0 w
 refine Zg Tryz.func65 rfl 64 rfl kn ?_
 let A0 : Value := .slice va xs.length vc
 let A6 : Value := .bool false
 let A8 : Value := vi xs.length
 refine zsl <| wv 2 (vu 0) <| wv 3 A6 <| znt <| Z9 <| zsl <| wv 8 A0 <| wv 9 A8 <| wv 10 (vi ((xs.length : Int) % 2)) ?_ (hr := Z7E kr om om)
 refine wv 11 (.bool (decide (((xs.length : Int) % 2) = 0))) <| znt ?_
 refine zid (fun b1 g2 => ?_) fun b1 g4 => ?_
 ·refine zsl <| wv 2 (vu 0) <| wv 3 A6 <| znt <| Zk <| Z4 <| ze2 (vu 0) A6 ?_
  exact ⟨by rw [Z4k om, decide_eq_false (show ¬ xs.length % 2 = 1 by omega)], H.upd 0 rfl [] ne⟩
 refine Zp <| ztn <| Z9 <| zsl <| wv 12 A0 <| wv 13 A8 <| wv 14 (vi 0) <| znt <| Zh <| ZB ([2, 3, 4, 5, 6, 7] ++ List.range' 14 50) (fun F_ W_ m_ => ∃ (i : Nat), F_ 14 = (vi i) ∧ (i ≤ xs.length) ∧ (∀ j, j < i → Z6g xs j) ∧ Sat w [zR w] W_ ∧ m_ = xs.length + 1 - i) _ ⟨0, (show ((vi 0) : Value) = _ by first | rfl | go_num), by omega, by intro j hj; omega, H, rfl⟩ ?_
 rintro g6 w7 _ ⟨i, v9, hi, hno, H8, rfl⟩
 refine Zn 14 _ v9 ?_
 refine zsl <| wv 15 (.bool (decide ((i : Int) < xs.length))) <| znt <| Z9 ?_
 refine zid (fun b11 g12 => ?_) fun b11 g72 => ?_
 ·refine Zp <| ztn <| Z9 <| Zh <| zsl <| wv 16 (vi i) <| wv 4 (vi i) <| Z1a <| wv 5 (vi 0) <| wv 6 (vi 0) ?_
  refine znt <| Z9 <| zsl <| wv 17 A0 <| wv 18 A8 <| wv 19 (vi 0) <| znt <| Zh <| ZB ([5, 6, 7] ++ List.range' 19 26) (fun F_ W_ m_ => ∃ (k : Nat), F_ 19 = (vi k) ∧ F_ 5 = (vi ((xs.take k).countP (fun x => decide (x < xs.getD i 0)) : Nat)) ∧ F_ 6 = (vi ((xs.take k).countP (fun x => decide (x = xs.getD i 0)) : Nat)) ∧ (k ≤ xs.length) ∧ Sat w [zR w] W_ ∧ m_ = xs.length + 1 - k) _ ⟨0, (show ((vi 0) : Value) = _ by first | rfl | go_num), (show ((vi 0) : Value) = _ by first | rfl | go_num), (show ((vi 0) : Value) = _ by first | rfl | go_num), by omega, H8, rfl⟩ ?_
  rintro g14 w15 _ ⟨k, v17, v18, v19, hk, H16, rfl⟩
  refine Zn 19 _ v17 ?_
  refine Zn 5 _ v18 ?_
  refine Zn 6 _ v19 ?_
  refine zsl <| wv 20 (.bool (decide ((k : Int) < xs.length))) <| znt <| Z9 ?_
  let A4 : Value := vu (xs.getD i 0)
  refine zid (fun b21 g22 => ?_) fun b21 g55 => ?_
  ·refine Zp <| ztn <| Z9 <| Zh <| zsl <| wv 21 (vi k) <| wv 7 (vi k) <| znt <| Z9 <| Z9 ?_
   refine zqs H16 ?_
   refine qv 22 A0 <| qv 23 (vi k) ?_
   obtain ⟨g24, o25, c26, e27, R28⟩ := SliceOf.atD hxs 0 (show k < xs.length by omega)
   refine qv 24 (.pointer (some ⟨g24, o25 + ((k : Int)).toNat * 1, none⟩)) ?_ (hr := fun _ H' => (Z8 (E := 25) kr kr kn rfl e27 rfl om om))
   refine qv 25 (vu (xs.getD k 0)) ?_ (hr := fun _ H' => (zl1 (H'.cellR 0 rfl (Z0f R28 0 kr (show o25 + ((k : Int)).toNat * 1 = o25 + k * 1 + 0 by omega)) (fun h => h))))
   refine qv 26 A0 <| qv 27 (vi i) ?_
   obtain ⟨g29, o30, c31, e32, R33⟩ := SliceOf.atD hxs 0 (show i < xs.length by omega)
   refine qv 28 (.pointer (some ⟨g29, o30 + ((i : Int)).toNat * 1, none⟩)) ?_ (hr := fun _ H' => (Z8 (E := 25) kr kr kn rfl e32 rfl om om))
   refine qv 29 A4 ?_ (hr := fun _ H' => (zl1 (H'.cellR 0 rfl (Z0f R33 0 kr (show o30 + ((i : Int)).toNat * 1 = o30 + i * 1 + 0 by omega)) (fun h => h))))
   refine qv 30 (.bool (decide ((xs.getD k 0) < (xs.getD i 0)))) <| Z01 fun w34 H35 => ?_
   apply ztn
   let A3 : Value := vi ((k : Int) + 1)
   let A9 : Value := .bool (decide ((xs.getD k 0) = (xs.getD i 0)))
   refine zid (fun b36 g37 => ?_) fun b36 g46 => ?_
   ·refine ZG <| wv 31 (vi ((xs.take k).countP (fun x => decide (x < xs.getD i 0)) : Nat)) <| wv 32 (vi ((((xs.take k).countP (fun x => decide (x < xs.getD i 0)) : Nat) : Int) + 1)) ?_ (hr := Z0A (z := (((xs.take k).countP (fun x => decide (x < xs.getD i 0)) : Nat) : Int) + 1) kr (IntWalk.i64_in _ (by have q1 := Z0R (fun x => decide (x < xs.getD i 0)) xs k; have q2 := Z0R (fun x => decide (x = xs.getD i 0)) xs k; omega)))
    refine wv 5 (vi ((((xs.take k).countP (fun x => decide (x < xs.getD i 0)) : Nat) : Int) + 1)) <| znt <| Z9 <| zqs H35 ?_
    refine qv 33 A0 <| qv 34 (vi k) <| qv 35 (.pointer (some ⟨g24, o25 + ((k : Int)).toNat * 1, none⟩)) ?_ (hr := fun _ H' => (Z8 (E := 25) kr kr kn rfl e27 rfl om om))
    refine qv 36 (vu (xs.getD k 0)) ?_ (hr := fun _ H' => (zl1 (H'.cellR 0 rfl (Z0f R28 0 kr (show o25 + ((k : Int)).toNat * 1 = o25 + k * 1 + 0 by omega)) (fun h => h))))
    refine qv 37 A0 <| qv 38 (vi i) <| qv 39 (.pointer (some ⟨g29, o30 + ((i : Int)).toNat * 1, none⟩)) ?_ (hr := fun _ H' => (Z8 (E := 25) kr kr kn rfl e32 rfl om om))
    refine qv 40 A4 ?_ (hr := fun _ H' => (zl1 (H'.cellR 0 rfl (Z0f R33 0 kr (show o30 + ((i : Int)).toNat * 1 = o30 + i * 1 + 0 by omega)) (fun h => h))))
    refine qv 41 A9 <| Z01 fun w39 H40 => ?_
    apply ztn
    refine zid (fun b41 g42 => ?_) fun b41 g44 => ?_
    ·refine ZG <| wv 42 (vi ((xs.take k).countP (fun x => decide (x = xs.getD i 0)) : Nat)) <| wv 43 (vi ((((xs.take k).countP (fun x => decide (x = xs.getD i 0)) : Nat) : Int) + 1)) ?_ (hr := Z0A (z := (((xs.take k).countP (fun x => decide (x = xs.getD i 0)) : Nat) : Int) + 1) kr (IntWalk.i64_in _ (by have q1 := Z0R (fun x => decide (x < xs.getD i 0)) xs k; have q2 := Z0R (fun x => decide (x = xs.getD i 0)) xs k; omega)))
     refine wv 6 (vi ((((xs.take k).countP (fun x => decide (x = xs.getD i 0)) : Nat) : Int) + 1)) <| ZL <| Z6 <| ztn <| ZG <| wv 44 A3 ?_ (hr := Z0A (z := (k : Int) + 1) kr (IntWalk.i64_in _ (by have q1 := Z0R (fun x => decide (x < xs.getD i 0)) xs k; have q2 := Z0R (fun x => decide (x = xs.getD i 0)) xs k; omega)))
     refine wv 19 A3 <| ZL <| Za ?_ _ ⟨(k + 1), rfl, (show ((vi ((((xs.take k).countP (fun x => decide (x < xs.getD i 0)) : Nat) : Int) + 1)) : Value) = _ by have q := Z3p (fun x => decide (x < xs.getD i 0)) xs k om; simp only [b36, b41, if_true, if_false, Bool.false_eq_true] at q; first | (rw [q]; rfl) | (rw [q]; go_num)), (show ((vi ((((xs.take k).countP (fun x => decide (x = xs.getD i 0)) : Nat) : Int) + 1)) : Value) = _ by have q := Z3p (fun x => decide (x = xs.getD i 0)) xs k om; simp only [b36, b41, if_true, if_false, Bool.false_eq_true] at q; first | (rw [q]; rfl) | (rw [q]; go_num)), by omega, H40, rfl⟩ om
     exact zs
    refine Zp <| Z6 <| ztn <| ZG <| wv 44 A3 ?_ (hr := Z0A (z := (k : Int) + 1) kr (IntWalk.i64_in _ (by have q1 := Z0R (fun x => decide (x < xs.getD i 0)) xs k; have q2 := Z0R (fun x => decide (x = xs.getD i 0)) xs k; omega)))
    refine wv 19 A3 <| ZL <| Za ?_ _ ⟨(k + 1), rfl, (show ((vi ((((xs.take k).countP (fun x => decide (x < xs.getD i 0)) : Nat) : Int) + 1)) : Value) = _ by have q := Z3p (fun x => decide (x < xs.getD i 0)) xs k om; simp only [b36, b41, if_true, if_false, Bool.false_eq_true] at q; first | (rw [q]; rfl) | (rw [q]; go_num)), (show ((vi ((xs.take k).countP (fun x => decide (x = xs.getD i 0)) : Nat)) : Value) = _ by have q := Z3p (fun x => decide (x = xs.getD i 0)) xs k om; simp only [b36, b41, if_true, if_false, Bool.false_eq_true] at q; first | (rw [q]; rfl) | (rw [q]; go_num)), by omega, H40, rfl⟩ om
    exact zs
   refine Zp <| ztn <| Z9 <| zqs H35 ?_
   refine qv 33 A0 <| qv 34 (vi k) <| qv 35 (.pointer (some ⟨g24, o25 + ((k : Int)).toNat * 1, none⟩)) ?_ (hr := fun _ H' => (Z8 (E := 25) kr kr kn rfl e27 rfl om om))
   refine qv 36 (vu (xs.getD k 0)) ?_ (hr := fun _ H' => (zl1 (H'.cellR 0 rfl (Z0f R28 0 kr (show o25 + ((k : Int)).toNat * 1 = o25 + k * 1 + 0 by omega)) (fun h => h))))
   refine qv 37 A0 <| qv 38 (vi i) <| qv 39 (.pointer (some ⟨g29, o30 + ((i : Int)).toNat * 1, none⟩)) ?_ (hr := fun _ H' => (Z8 (E := 25) kr kr kn rfl e32 rfl om om))
   refine qv 40 A4 ?_ (hr := fun _ H' => (zl1 (H'.cellR 0 rfl (Z0f R33 0 kr (show o30 + ((i : Int)).toNat * 1 = o30 + i * 1 + 0 by omega)) (fun h => h))))
   refine qv 41 A9 <| Z01 fun w48 H49 => ?_
   apply ztn
   refine zid (fun b50 g51 => ?_) fun b50 g53 => ?_
   ·refine ZG <| wv 42 (vi ((xs.take k).countP (fun x => decide (x = xs.getD i 0)) : Nat)) <| wv 43 (vi ((((xs.take k).countP (fun x => decide (x = xs.getD i 0)) : Nat) : Int) + 1)) ?_ (hr := Z0A (z := (((xs.take k).countP (fun x => decide (x = xs.getD i 0)) : Nat) : Int) + 1) kr (IntWalk.i64_in _ (by have q1 := Z0R (fun x => decide (x < xs.getD i 0)) xs k; have q2 := Z0R (fun x => decide (x = xs.getD i 0)) xs k; omega)))
    refine wv 6 (vi ((((xs.take k).countP (fun x => decide (x = xs.getD i 0)) : Nat) : Int) + 1)) <| ZL <| Z6 <| ztn <| ZG <| wv 44 A3 ?_ (hr := Z0A (z := (k : Int) + 1) kr (IntWalk.i64_in _ (by have q1 := Z0R (fun x => decide (x < xs.getD i 0)) xs k; have q2 := Z0R (fun x => decide (x = xs.getD i 0)) xs k; omega)))
    refine wv 19 A3 <| ZL <| Za ?_ _ ⟨(k + 1), rfl, (show ((vi ((xs.take k).countP (fun x => decide (x < xs.getD i 0)) : Nat)) : Value) = _ by have q := Z3p (fun x => decide (x < xs.getD i 0)) xs k om; simp only [b36, b50, if_true, if_false, Bool.false_eq_true] at q; first | (rw [q]; rfl) | (rw [q]; go_num)), (show ((vi ((((xs.take k).countP (fun x => decide (x = xs.getD i 0)) : Nat) : Int) + 1)) : Value) = _ by have q := Z3p (fun x => decide (x = xs.getD i 0)) xs k om; simp only [b36, b50, if_true, if_false, Bool.false_eq_true] at q; first | (rw [q]; rfl) | (rw [q]; go_num)), by omega, H49, rfl⟩ om
    exact zs
   refine Zp <| Z6 <| ztn <| ZG <| wv 44 A3 ?_ (hr := Z0A (z := (k : Int) + 1) kr (IntWalk.i64_in _ (by have q1 := Z0R (fun x => decide (x < xs.getD i 0)) xs k; have q2 := Z0R (fun x => decide (x = xs.getD i 0)) xs k; omega)))
   refine wv 19 A3 <| ZL <| Za ?_ _ ⟨(k + 1), rfl, (show ((vi ((xs.take k).countP (fun x => decide (x < xs.getD i 0)) : Nat)) : Value) = _ by have q := Z3p (fun x => decide (x < xs.getD i 0)) xs k om; simp only [b36, b50, if_true, if_false, Bool.false_eq_true] at q; first | (rw [q]; rfl) | (rw [q]; go_num)), (show ((vi ((xs.take k).countP (fun x => decide (x = xs.getD i 0)) : Nat)) : Value) = _ by have q := Z3p (fun x => decide (x = xs.getD i 0)) xs k om; simp only [b36, b50, if_true, if_false, Bool.false_eq_true] at q; first | (rw [q]; rfl) | (rw [q]; go_num)), by omega, H49, rfl⟩ om
   exact zs
  refine zxb <| ztn <| Z9 ?_
  have e5 : xs.take k = xs := List.take_of_length_le om
  have c1 := cLt_le xs (xs.getD i 0)
  have c2 := cEq_le xs (xs.getD i 0)
  let A1 := (cLt xs (xs.getD i 0) : Nat)
  refine Zn 5 (vi A1) (show ((vi ((xs.take k).countP (fun x => decide (x < xs.getD i 0)) : Nat)) : Value) = _ by rw [e5]; rfl) ?_
  let A2 := (cEq xs (xs.getD i 0) : Nat)
  refine Zn 6 (vi A2) (show ((vi ((xs.take k).countP (fun x => decide (x = xs.getD i 0)) : Nat)) : Value) = _ by rw [e5]; rfl) ?_
  refine ZG <| wv 45 (vi A1) <| wv 46 A0 <| wv 47 A8 <| wv 48 (vi ((xs.length : Int) / 2)) ?_ (hr := ZbR kr om om (IntWalk.i64_in _ om))
  let A7 : Value := .bool (decide ((A1 : Int) ≤ ((xs.length : Int) / 2)))
  refine wv 49 A7 <| wv 50 A7 ?_
  refine zil 50 (fun b57 g58 => ?_) fun b57 g70 => ?_
  ·refine wy 5 50 true 51 A0 <| wy 5 50 true 52 A8 <| wy 5 50 true 53 (vi ((xs.length : Int) / 2)) ?_ (hr := ZbR kr om om (IntWalk.i64_in _ om))
   refine wy 5 50 true 54 (vi A1) <| wy 5 50 true 55 (vi A2) <| wy 5 50 true 56 (vi ((A1 : Int) + (A2 : Int))) ?_ (hr := Z0A (z := (A1 : Int) + (A2 : Int)) kr (IntWalk.i64_in _ om))
   let A5 : Value := .bool (decide (((xs.length : Int) / 2) < ((A1 : Int) + (A2 : Int))))
   refine wy 5 50 true 57 A5 <| wv 58 A5 <| znt ?_
   refine zid (fun b60 g61 => ?_) fun b60 g68 => ?_
   ·refine zsl <| wv 59 A0 <| wv 60 (vi i) ?_
    obtain ⟨g63, o64, c65, e66, R67⟩ := SliceOf.atD hxs 0 (show i < xs.length by omega)
    refine wv 61 (.pointer (some ⟨g63, o64 + ((i : Int)).toNat * 1, none⟩)) ?_ (hr := Z8 (E := 25) kr kr kn rfl e66 rfl om om)
    refine zw1 62 A4 (H16.cellR 0 rfl (Z0f R67 0 kr (show o64 + ((i : Int)).toNat * 1 = o64 + i * 1 + 0 by omega)) (fun h => h)) <| wv 2 A4 <| wv 3 (.bool true) <| znt <| Zk <| Zf <| Z4 <| Zs <| Zf <| Z4 ?_
    refine ze2 A4 (.bool true) ?_
    simp only [decide_eq_true_eq, Bool.and_eq_true] at *
    exact ⟨by rw [Zet (j := i) om om om om, decide_eq_true (show xs.length % 2 = 1 by omega)], H16.upd 0 rfl [] ne⟩
   refine Zp <| Z6 <| ztn <| ZG <| zwi 63 ((i : Int) + 1) <| wv 14 (vi ((i : Int) + 1)) <| ZL <| Za ?_ _ ⟨(i + 1), rfl, by omega, Z6Q hno (by unfold Z6g; rintro ⟨q1, q2⟩; simp only [decide_eq_true_eq, decide_eq_false_iff_not, Bool.and_eq_false_iff] at *; omega), H16, rfl⟩ om
   exact zs
  iterate 7 refine wn 5 50 true ?_
  refine wv 58 A6 <| znt <| Z2h rfl ?_
  refine Zp <| Z6 <| ztn <| ZG <| zwi 63 ((i : Int) + 1) <| wv 14 (vi ((i : Int) + 1)) <| ZL <| Za ?_ _ ⟨(i + 1), rfl, by omega, Z6Q hno (by unfold Z6g; rintro ⟨q1, q2⟩; simp only [decide_eq_true_eq, decide_eq_false_iff_not, Bool.and_eq_false_iff] at *; omega), H16, rfl⟩ om
  exact zs
 refine zxb <| ztn <| zsl <| wv 2 (vu 0) <| wv 3 A6 <| znt <| Zk <| ze2 (vu 0) A6 ?_
 exact (ZeP (xs := xs) om (fun j hj => hno j om)).elim
theorem Zdp (w : World) (v : Value) (xs : List Int) (hxs : ListAt Z4b 1 w v xs) (hx : xs.length ≤ 12) : Calls Tryz.prog 65 #[v] w fun e w' => e = .returned (.tuple #[u6 (Z8L xs), .bool (decide (xs.length % 2 = 1))]) ∧ Upd [] w w' := by
 obtain ⟨a, c, rfl⟩ := hxs.len
 exact ZbK w a c xs hxs hx
end Go.Proofs.YtenihpghfdcpkaaGreat
