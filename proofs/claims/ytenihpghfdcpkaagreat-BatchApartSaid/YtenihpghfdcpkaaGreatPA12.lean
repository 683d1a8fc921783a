/- WHAT IS PROVED: contracts and plain laws of SortUS, NumsS. Conditions: stated with each. -/
import Derived.Test.YtenihpghfdcpkaaGreatPA05
import Derived.Test.YtenihpghfdcpkaaGreatPA06
import Derived.Test.YtenihpghfdcpkaaGreatPA07
import Derived.Test.YtenihpghfdcpkaaGreatPA10
import Derived.Test.YtenihpghfdcpkaaGreatPA11
set_option maxHeartbeats 4000000
set_option maxRecDepth 100000
namespace Go.Proofs.YtenihpghfdcpkaaGreat
open Go.RowKit
theorem ZcZ (w : World) (g n c : Nat) (lim : Int) (A : List Int) (hT : (Z5i g n c A).ok w) (hn12 : n ≤ 12) :
  Calls Tryz.prog 205 #[(.slice (some ⟨g, 0, none⟩) n c), (.int .i64 (0)), (.int .i64 ((n : Int))), (.int .i64 (lim))] w fun e w' => ∃ B : List Int, e = .returned (.tuple #[]) ∧ B.length = n ∧ B.Perm A ∧ Srt ltU 0 B.length B ∧ Sat w [Z5i g n c B, Z3 w (Z5i g n c A).fp] w' := by
 have H := Sat.start1 hT
 have hl := Z8a hT
 have hw := swU
 have hn : n ≤ 1000000000000 := by omega
 refine Z8 Tryz.func205 rfl 134 rfl kn ?_
 refine zsl <| wv 8 (.bool true) <| Z0y <| wv 9 (.bool true) <| znt <| Za <| Zw ([1, 2, 3] ++ List.range' 8 126) (fun F_ W_ m_ => ∃ (z_ : Nat), F_ 1 = (vi 0) ∧ F_ 2 = (vi n) ∧ F_ 3 = (vi lim) ∧ F_ 8 = (.bool true) ∧ F_ 9 = (.bool true) ∧ (True) ∧ Sat w [Z5i g n c A, Z3 w (Z5i g n c A).fp] W_ ∧ m_ = z_) _ ⟨0, (show ((vi 0) : Value) = _ by first | rfl | go_num), (show ((vi n) : Value) = _ by first | rfl | go_num), (show ((vi lim) : Value) = _ by first | rfl | go_num), (by first | rfl | go_num), (by first | rfl | go_num), trivial, H, rfl⟩ ?_
 rintro g1 w2 _ ⟨z_, v4, v5, v6, v7, v8, ht_, H3, rfl⟩
 refine Zd 1 _ v4 ?_
 refine Zd 2 _ v5 ?_
 refine Zd 3 _ v6 ?_
 refine Zd 8 _ v7 ?_
 refine Zd 9 _ v8 ?_
 refine Za <| zsl <| wv 19 (vi n) <| wv 20 (vi 0) <| zwi 21 ((n : Int) - 0) <| wv 10 (vi ((n : Int) - 0)) <| znt <| Z5 <| zsl <| wv 22 (vi ((n : Int) - 0)) ?_
 refine wv 23 (.bool (decide (((n : Int) - 0) ≤ 12))) <| znt ?_
 have b10 : (decide (((n : Int) - 0) ≤ 12)) = true := by exact decide_eq_true om
 have g11 := of_decide_eq_true b10
 refine Z33 _ b10 ?_
 refine zsl <| wv 24 (.slice (some ⟨g, 0, none⟩) n c) <| wv 25 (vi 0) <| wv 26 (vi n) <| zy <| zdc 27 (Z7e w2 g n c 0 n A (H3.at 0 rfl) hn om) ?_
 rintro _ w14 ⟨B13, rfl, l15, S16, h18, T17⟩
 have H20 := (Sat.turn1 (L' := [Z5i g n c B13]) (R := [Z3 w (Z5i g n c A).fp]) H3 0 [1] (by decide) rfl rfl T17).pk [0, 1]
 refine ⟨_, rfl, ?_⟩
 refine kk <| znt <| Zq <| ZP <| Z0k <| Z1h <| Z0k <| end0 rfl  ?_
 exact ⟨B13, rfl, l15, S16.perm, by have q := h18; rw [← l15] at q; exact q, H20⟩
theorem ZcR (w : World) (x : Int) (hx : 0 ≤ x ∧ x ≤ 18446744073709551615) : Calls Tryz.prog 102 #[.int .u64 x] w fun e w' => e = .returned (.int .i64 (Lib.bitLen x.toNat)) ∧ Upd [] w w' :=
 (Go.Proofs.Any.bits_Len Z7O x w hx.1 hx.2).mono fun _ _ ⟨he, hw⟩ => ⟨he, hw ▸ Upd.refl _ _⟩
theorem Zbw (w : World) (g n c : Nat) (A : List Int) (hT : (Z5i g n c A).ok w) (hn : n ≤ 12) :
  Calls Tryz.prog 178 #[(.slice (some ⟨g, 0, none⟩) n c)] w fun e w' => ∃ B : List Int, e = .returned (.tuple #[]) ∧ B.length = n ∧ B.Perm A ∧ Srt ltU 0 B.length B ∧ Sat w [Z5i g n c B, Z3 w (Z5i g n c A).fp] w' := by
 have H := Sat.start1 hT
 have hl := Z8a hT
 have hw := swU
 refine Z8 Tryz.func178 rfl 11 rfl kn ?_
 refine zsl <| wv 3 (.slice (some ⟨g, 0, none⟩) n c) <| wv 4 (vi n) <| wv 2 (vi n) <| znt <| Zl <| wv 5 (.slice (some ⟨g, 0, none⟩) n c) <| wv 6 (vi n) <| wv 7 (vi n) <| wv 8 (vu n) ?_ (hr := Z0g (z := (n : Int)) kr (Z12 om))
 refine zy <| zdq 9 (ZcR w (n : Int) om) H fun w2 H3 => ?_
 refine kk <| zy <| zdc 10 (ZcZ w2 g n c (Lib.bitLen (n : Int).toNat : Int) A (H3.at 0 rfl) hn) ?_
 rintro _ w7 ⟨B6, rfl, l8, S9, s10, T11⟩
 have H12 := Sat.turn1 (L' := [Z5i g n c B6]) (R := [Z3 w (Z5i g n c A).fp]) H3 0 [1] (by decide) rfl rfl T11
 refine ⟨_, rfl, ?_⟩
 refine kk <| Zu <| Z7K ?_
 refine end0 rfl  ?_
 exact ⟨B6, rfl, l8, S9, s10, H12⟩
theorem Z8y {w w' : World} {b T : Nat} {v : Value} (h : (Z3 w fun _ => False).ok w') (hb : (Z0 b T [v]).ok w) : (Z0 b T [v]).ok w' := (h b (Z1j hb) (fun h => h)).trans hb
theorem Z8v (w : World) (va : Option Addr) (vn vc : Nat) :
  Calls Tryz.prog 126 #[(.slice va vn vc)] w fun e w' => ∃ b, e = .returned (.func (.func 179) #[] #[.pointer (some ⟨b, 0, none⟩)]) ∧ (Z0 b 109 [(.slice va vn vc)]).ok w' ∧ Upd [] w w' ∧ w.heap.size ≤ b := by
 have H := Sat.start0 w
 refine Z8 Tryz.func126 rfl 4 rfl kn ?_
 refine zsl <| zy <| zdb ([(.slice va vn vc)] : List Value) H fun b2 w3 H4 => ?_
 refine kk <| wv 2 (Go.Value.nilFunc) <| Z0y <| wv 3 (.func (.func 179) #[] #[(pt b2 0)]) <| wv 2 (.func (.func 179) #[] #[(pt b2 0)]) <| znt <| Zq <| ze1 (.func (.func 179) #[] #[(pt b2 0)]) ?_
 exact ⟨b2, rfl, H4.at 1 rfl, H4.upd 0 rfl [] ne, H4.fresh 0 rfl (fun _ h => h) 1 rfl rfl b2 rfl⟩
theorem Z9T (w : World) (v : Value) (hv : ∃ a n c, v = .slice a n c) : Calls Tryz.prog 126 #[v] w fun e w' => ∃ b, e = .returned (.func (.func 179) #[] #[.pointer (some ⟨b, 0, none⟩)]) ∧ (Z0 b 109 [v]).ok w' ∧ Upd [] w w' ∧ w.heap.size ≤ b := by
 obtain ⟨a, n, c, rfl⟩ := hv
 exact Z8v w a n c
theorem Z8I (w : World) (b : Nat) (v : Value) (xs : List Int) (hb : (Z0 b 109 [v]).ok w) (hv : ListAt Z4j 1 w v xs) (hx : xs.length ≤ 12) :
  Calls Tryz.prog 177 #[(.func (.func 179) #[] #[(.pointer (some ⟨b, 0, none⟩))])] w fun e w' => ∃ u, e = .returned u ∧ (Zc 25 1 u xs.length (xs.flatMap Z4j)).ok w' ∧ Upd [] w w' ∧ ∀ b, u.ownBlock = some b → w.heap.size ≤ b := by
 have H := Sat.start0 w
 refine Z8 Tryz.func177 rfl 5 rfl kn ?_
 refine zsl <| wv 2 (.slice none 0 0) <| Z0y <| wv 3 (.func (.func 179) #[] #[(pt b 0)]) <| zy <| zdc 4 (Z7k w b v xs ((Z8y (H.at 0 rfl) hb)) (ListAt.now H 0 rfl hv) om) ?_
 rintro _ w2 ⟨u3, rfl, k4, p5, q6⟩
 have H7 := H.addU p5 k4 q6
 obtain ⟨a8, c9, rfl⟩ := Z2 (H7.at 1 rfl)
 refine ⟨_, rfl, ?_⟩
 refine kk <| wv 2 (.slice a8 xs.length c9) <| znt <| Zq <| ze1 (.slice a8 xs.length c9) ?_
 exact ⟨_, rfl, H7.at 1 rfl, H7.upd 0 rfl [] ne, H7.fresh 0 rfl (fun _ h => h) 1 rfl rfl⟩
theorem Z9S (w : World) (b : Nat) (v : Value) (xs : List Int) (hb : (Z0 b 109 [v]).ok w) (hv : ListAt Z4j 1 w v xs) (hx : xs.length ≤ 12) (h0 : 0 < xs.length) :
  Calls Tryz.prog 125 #[(.func (.func 179) #[] #[(.pointer (some ⟨b, 0, none⟩))])] w fun e w' => ∃ u B, e = .returned u ∧ (Zc 25 1 u B.length (B.flatMap Z4j)).ok w' ∧ Upd [] w w' ∧ (∀ k, u.ownBlock = some k → w.heap.size ≤ k) ∧ B.Perm xs ∧ Srt ltU 0 B.length B := by
 have H := Sat.start0 w
 refine Z8 Tryz.func125 rfl 9 rfl kn ?_
 refine zsl <| wv 2 (.slice none 0 0) <| Z0y <| wv 4 (.func (.func 179) #[] #[(pt b 0)]) <| zy <| zdc 5 (Z8I w b v xs (Z8y (H.at 0 rfl) hb) (ListAt.now H 0 rfl hv) om) ?_
 rintro _ w2 ⟨u3, rfl, k4, p5, q6⟩
 have H7 := H.addU p5 k4 q6
 obtain ⟨a8, c9, rfl⟩ := Z2 (H7.at 1 rfl)
 refine ⟨_, rfl, ?_⟩
 refine kk <| wv 3 (.slice a8 xs.length c9) <| znt <| Z5 ?_
 obtain ⟨g10, c11, e12⟩ := Z0z (H7.at 1 rfl) om
 obtain rfl : a8 = some ⟨g10, 0, none⟩ := by cases e12; rfl
 have H13 := H7
 refine Zl <| wv 6 (.slice (some ⟨g10, 0, none⟩) xs.length c9) <| zy <| zdc 7 (Zbw w2 g10 xs.length c9 xs (H13.at 1 rfl) om) ?_
 rintro _ w16 ⟨B15, rfl, l17, p18, s19, T20⟩
 have H21 := (Sat.turn1 (L' := [Z5i g10 xs.length c9 B15]) (R := [Z3 w (fun _ => False)]) H13 1 [0] (by decide) rfl rfl T20).pk [1, 0]
 refine ⟨_, rfl, ?_⟩
 refine kk <| Z0y <| wv 8 (.slice (some ⟨g10, 0, none⟩) xs.length c9) <| wv 2 (.slice (some ⟨g10, 0, none⟩) xs.length c9) <| znt <| Zq <| ze1 (.slice (some ⟨g10, 0, none⟩) xs.length c9) ?_
 exact ⟨_, B15, rfl, (by have q := H21.at 1 rfl; have e : (xs.length : Nat) = B15.length := l17.symm; unfold Z5i at q; rw [e] at q ⊢; exact q), H21.upd 0 rfl [] ne, H21.fresh 0 rfl (fun _ h => h) 1 rfl rfl, p18, s19⟩
theorem Zdk (w : World) (va : Option Addr) (vc : Nat) (xs : List Int) (hxs : ListAt Z4j 1 w (.slice va xs.length vc) xs) (hx : xs.length ≤ 12) :
  Calls Tryz.prog 99 #[(.slice va xs.length vc)] w fun e w' => e = .returned (.tuple #[.int .u64 (Z5Y xs), .bool (decide (xs.length % 2 = 1))]) ∧ Upd [] w w' := by
 have H := Sat.start0 w
 refine Z8 Tryz.func99 rfl 18 rfl kn ?_
 refine zsl <| wv 2 (vu 0) <| wv 3 (.bool false) <| znt <| Z5 <| zsl <| wv 5 (.slice va xs.length vc) <| wv 6 (vi xs.length) <| wv 7 (vi ((xs.length : Int) % 2)) ?_ (hr := Z8s kr om om)
 refine wv 8 (.bool (decide (((xs.length : Int) % 2) = 0))) <| znt ?_
 refine zid (fun b1 g2 => ?_) fun b1 g4 => ?_
 ·refine zsl <| wv 2 (vu 0) <| wv 3 (.bool false) <| znt <| Zq <| ZP <| ze2 (vu 0) (.bool false) ?_
  exact ⟨by rw [Z4G om, decide_eq_false (show ¬ xs.length % 2 = 1 by omega)], H.upd 0 rfl [] ne⟩
 refine Zt <| ztn <| zsl <| wv 9 (.slice va xs.length vc) <| zy <| zdc 10 (Z9T w (.slice va xs.length vc) ⟨_, _, _, rfl⟩) ?_
 rintro _ w8 ⟨b7, rfl, k9, p10, q11⟩
 have H12 := H.addU p10 k9 (fun _ h => h ▸ q11)
 refine ⟨_, rfl, ?_⟩
 refine kk <| zy <| zdc 11 (Z9S w8 b7 (.slice va xs.length vc) xs (H12.at 1 rfl) (ListAt.now H12 0 rfl hxs) om om) ?_
 rintro _ w14 ⟨u15, B19, rfl, k16, p17, q18, p20, s21⟩
 have H22 := H12.addU p17 k16 q18
 obtain ⟨a23, c24, rfl⟩ := Z2 (H22.at 2 rfl)
 refine ⟨_, rfl, ?_⟩
 have hlB19 : B19.length = xs.length := p20.length_eq
 refine kk <| wv 4 (.slice a23 B19.length c24) <| Z0y <| wv 12 (.slice a23 B19.length c24) <| wv 13 (.slice a23 B19.length c24) <| wv 14 (vi B19.length) <| wv 15 (vi ((B19.length : Int) / 2)) ?_ (hr := Zeo kr om om (IntWalk.i64_in _ om))
 obtain ⟨g25, c26, e27⟩ := Z0z (H22.at 2 rfl) om
 obtain ⟨x28, h29⟩ := Z3E (show ((B19.length : Int) / 2).toNat < B19.length by omega)
 refine wv 16 (.pointer (some ⟨g25, 0 + ((B19.length : Int) / 2).toNat * 1, none⟩)) ?_ (hr := Z04 (E := 25) kr kr kn rfl e27 rfl om om)
 refine zw1 17 (vu x28) (Z1x (H22.at 2 rfl) e27 Z27 h29 0 rfl (show 0 + ((B19.length : Int) / 2).toNat * 1 = ((B19.length : Int) / 2).toNat * 1 + 0 by omega) kr) <| wv 2 (vu x28) <| wv 3 (.bool true) <| znt <| Zq <| ze2 (vu x28) (.bool true) ?_
 have hm : Z5Y xs = x28 := (Zd4 p20).symm.trans (Z9V om (srt_le s21 (by rw [show B19.length / 2 = ((B19.length : Int) / 2).toNat by omega]; exact h29)))
 exact ⟨by rw [hm, decide_eq_true (show xs.length % 2 = 1 by omega)], H22.upd 0 rfl [] ne⟩
theorem Zef (w : World) (v : Value) (xs : List Int) (hxs : ListAt Z4j 1 w v xs) (hx : xs.length ≤ 12) : Calls Tryz.prog 99 #[v] w fun e w' => e = .returned (.tuple #[.int .u64 (Z5Y xs), .bool (decide (xs.length % 2 = 1))]) ∧ Upd [] w w' := by
 obtain ⟨a, c, rfl⟩ := hxs.len
 exact Zdk w a c xs hxs hx
theorem Zds (w : World) (va : Option Addr) (vc : Nat) (xs : List Int) (hxs : ListAt Z4j 1 w (.slice va xs.length vc) xs) (hx : xs.length ≤ 12) :
  Calls Tryz.prog 65 #[(.slice va xs.length vc)] w fun e w' => e = .returned (.tuple #[.int .u64 (Z5Y xs), .bool (decide (xs.length % 2 = 1))]) ∧ Upd [] w w' := by
 have H := Sat.start0 w
 refine Z8 Tryz.func65 rfl 64 rfl kn ?_
 refine zsl <| wv 2 (vu 0) <| wv 3 (.bool false) <| znt <| Z5 <| zsl <| wv 8 (.slice va xs.length vc) <| wv 9 (vi xs.length) <| wv 10 (vi ((xs.length : Int) % 2)) ?_ (hr := Z8s kr om om)
 refine wv 11 (.bool (decide (((xs.length : Int) % 2) = 0))) <| znt ?_
 refine zid (fun b1 g2 => ?_) fun b1 g4 => ?_
 ·refine zsl <| wv 2 (vu 0) <| wv 3 (.bool false) <| znt <| Zq <| ZP <| ze2 (vu 0) (.bool false) ?_
  exact ⟨by rw [Z4G om, decide_eq_false (show ¬ xs.length % 2 = 1 by omega)], H.upd 0 rfl [] ne⟩
 refine Zt <| ztn <| Z5 <| zsl <| wv 12 (.slice va xs.length vc) <| wv 13 (vi xs.length) <| wv 14 (vi 0) <| znt <| Za <| Zw ([2, 3, 4, 5, 6, 7] ++ List.range' 14 50) (fun F_ W_ m_ => ∃ (i : Nat), F_ 14 = (vi i) ∧ (i ≤ xs.length) ∧ (∀ j, j < i → Z6E xs j) ∧ Sat w [Z3 w (fun _ => False)] W_ ∧ m_ = xs.length + 1 - i) _ ⟨0, (show ((vi 0) : Value) = _ by first | rfl | go_num), by omega, by intro j hj; omega, H, rfl⟩ ?_
 rintro g6 w7 _ ⟨i, v9, hi, hno, H8, rfl⟩
 refine Zd 14 _ v9 ?_
 refine zsl <| wv 15 (.bool (decide ((i : Int) < xs.length))) <| znt <| Z5 ?_
 refine zid (fun b11 g12 => ?_) fun b11 g72 => ?_
 ·refine Zt <| ztn <| Z5 <| Za <| zsl <| wv 16 (vi i) <| wv 4 (vi i) <| Z0y <| wv 5 (vi 0) <| wv 6 (vi 0) ?_
  refine znt <| Z5 <| zsl <| wv 17 (.slice va xs.length vc) <| wv 18 (vi xs.length) <| wv 19 (vi 0) <| znt <| Za <| Zw ([5, 6, 7] ++ List.range' 19 26) (fun F_ W_ m_ => ∃ (k : Nat), F_ 19 = (vi k) ∧ F_ 5 = (vi ((xs.take k).countP (fun x => decide (x < xs.getD i 0)) : Nat)) ∧ F_ 6 = (vi ((xs.take k).countP (fun x => decide (x = xs.getD i 0)) : Nat)) ∧ (k ≤ xs.length) ∧ Sat w [Z3 w (fun _ => False)] W_ ∧ m_ = xs.length + 1 - k) _ ⟨0, (show ((vi 0) : Value) = _ by first | rfl | go_num), (show ((vi 0) : Value) = _ by first | rfl | go_num), (show ((vi 0) : Value) = _ by first | rfl | go_num), by omega, H8, rfl⟩ ?_
  rintro g14 w15 _ ⟨k, v17, v18, v19, hk, H16, rfl⟩
  refine Zd 19 _ v17 ?_
  refine Zd 5 _ v18 ?_
  refine Zd 6 _ v19 ?_
  refine zsl <| wv 20 (.bool (decide ((k : Int) < xs.length))) <| znt <| Z5 ?_
  refine zid (fun b21 g22 => ?_) fun b21 g55 => ?_
  ·refine Zt <| ztn <| Z5 <| Za <| zsl <| wv 21 (vi k) <| wv 7 (vi k) <| znt <| Z5 <| Z5 ?_
   refine zqs H16 ?_
   refine qv 22 (.slice va xs.length vc) <| qv 23 (vi k) ?_
   obtain ⟨g24, o25, c26, e27, R28⟩ := SliceOf.atD hxs 0 (show k < xs.length by omega)
   refine qv 24 (.pointer (some ⟨g24, o25 + ((k : Int)).toNat * 1, none⟩)) ?_ (hr := fun _ H' => (Zh (E := 25) kr kr kn rfl e27 rfl om om))
   refine qv 25 (vu (xs.getD k 0)) ?_ (hr := fun _ H' => (zl1 (H'.cellR 0 rfl (Z0P R28 0 kr (show o25 + ((k : Int)).toNat * 1 = o25 + k * 1 + 0 by omega)) (fun h => h))))
   refine qv 26 (.slice va xs.length vc) <| qv 27 (vi i) ?_
   obtain ⟨g29, o30, c31, e32, R33⟩ := SliceOf.atD hxs 0 (show i < xs.length by omega)
   refine qv 28 (.pointer (some ⟨g29, o30 + ((i : Int)).toNat * 1, none⟩)) ?_ (hr := fun _ H' => (Zh (E := 25) kr kr kn rfl e32 rfl om om))
   refine qv 29 (vu (xs.getD i 0)) ?_ (hr := fun _ H' => (zl1 (H'.cellR 0 rfl (Z0P R33 0 kr (show o30 + ((i : Int)).toNat * 1 = o30 + i * 1 + 0 by omega)) (fun h => h))))
   refine qv 30 (.bool (decide ((xs.getD k 0) < (xs.getD i 0)))) <| Z17 fun w34 H35 => ?_
   apply ztn
   refine zid (fun b36 g37 => ?_) fun b36 g46 => ?_
   ·refine Zl <| wv 31 (vi ((xs.take k).countP (fun x => decide (x < xs.getD i 0)) : Nat)) <| wv 32 (vi ((((xs.take k).countP (fun x => decide (x < xs.getD i 0)) : Nat) : Int) + 1)) ?_ (hr := Z0g (z := (((xs.take k).countP (fun x => decide (x < xs.getD i 0)) : Nat) : Int) + 1) kr (IntWalk.i64_in _ (by have q1 := Z0q (fun x => decide (x < xs.getD i 0)) xs k; have q2 := Z0q (fun x => decide (x = xs.getD i 0)) xs k; omega)))
    refine wv 5 (vi ((((xs.take k).countP (fun x => decide (x < xs.getD i 0)) : Nat) : Int) + 1)) <| znt <| Z5 <| zqs H35 ?_
    refine qv 33 (.slice va xs.length vc) <| qv 34 (vi k) <| qv 35 (.pointer (some ⟨g24, o25 + ((k : Int)).toNat * 1, none⟩)) ?_ (hr := fun _ H' => (Zh (E := 25) kr kr kn rfl e27 rfl om om))
    refine qv 36 (vu (xs.getD k 0)) ?_ (hr := fun _ H' => (zl1 (H'.cellR 0 rfl (Z0P R28 0 kr (show o25 + ((k : Int)).toNat * 1 = o25 + k * 1 + 0 by omega)) (fun h => h))))
    refine qv 37 (.slice va xs.length vc) <| qv 38 (vi i) <| qv 39 (.pointer (some ⟨g29, o30 + ((i : Int)).toNat * 1, none⟩)) ?_ (hr := fun _ H' => (Zh (E := 25) kr kr kn rfl e32 rfl om om))
    refine qv 40 (vu (xs.getD i 0)) ?_ (hr := fun _ H' => (zl1 (H'.cellR 0 rfl (Z0P R33 0 kr (show o30 + ((i : Int)).toNat * 1 = o30 + i * 1 + 0 by omega)) (fun h => h))))
    refine qv 41 (.bool (decide ((xs.getD k 0) = (xs.getD i 0)))) <| Z17 fun w39 H40 => ?_
    apply ztn
    refine zid (fun b41 g42 => ?_) fun b41 g44 => ?_
    ·refine Zl <| wv 42 (vi ((xs.take k).countP (fun x => decide (x = xs.getD i 0)) : Nat)) <| wv 43 (vi ((((xs.take k).countP (fun x => decide (x = xs.getD i 0)) : Nat) : Int) + 1)) ?_ (hr := Z0g (z := (((xs.take k).countP (fun x => decide (x = xs.getD i 0)) : Nat) : Int) + 1) kr (IntWalk.i64_in _ (by have q1 := Z0q (fun x => decide (x < xs.getD i 0)) xs k; have q2 := Z0q (fun x => decide (x = xs.getD i 0)) xs k; omega)))
     refine wv 6 (vi ((((xs.take k).countP (fun x => decide (x = xs.getD i 0)) : Nat) : Int) + 1)) <| Zu <| Z7 <| ztn <| Zl <| wv 44 (vi ((k : Int) + 1)) ?_ (hr := Z0g (z := (k : Int) + 1) kr (IntWalk.i64_in _ (by have q1 := Z0q (fun x => decide (x < xs.getD i 0)) xs k; have q2 := Z0q (fun x => decide (x = xs.getD i 0)) xs k; omega)))
     refine wv 19 (vi ((k : Int) + 1)) <| Zu <| Z6 ?_ _ ⟨(k + 1), rfl, (show ((vi ((((xs.take k).countP (fun x => decide (x < xs.getD i 0)) : Nat) : Int) + 1)) : Value) = _ by have q := Z3z (fun x => decide (x < xs.getD i 0)) xs k om; simp only [b36, b41, if_true, if_false, Bool.false_eq_true] at q; first | (rw [q]; rfl) | (rw [q]; go_num)), (show ((vi ((((xs.take k).countP (fun x => decide (x = xs.getD i 0)) : Nat) : Int) + 1)) : Value) = _ by have q := Z3z (fun x => decide (x = xs.getD i 0)) xs k om; simp only [b36, b41, if_true, if_false, Bool.false_eq_true] at q; first | (rw [q]; rfl) | (rw [q]; go_num)), by omega, H40, rfl⟩ om
     exact zs
    refine Zt <| Z7 <| ztn <| Zl <| wv 44 (vi ((k : Int) + 1)) ?_ (hr := Z0g (z := (k : Int) + 1) kr (IntWalk.i64_in _ (by have q1 := Z0q (fun x => decide (x < xs.getD i 0)) xs k; have q2 := Z0q (fun x => decide (x = xs.getD i 0)) xs k; omega)))
    refine wv 19 (vi ((k : Int) + 1)) <| Zu <| Z6 ?_ _ ⟨(k + 1), rfl, (show ((vi ((((xs.take k).countP (fun x => decide (x < xs.getD i 0)) : Nat) : Int) + 1)) : Value) = _ by have q := Z3z (fun x => decide (x < xs.getD i 0)) xs k om; simp only [b36, b41, if_true, if_false, Bool.false_eq_true] at q; first | (rw [q]; rfl) | (rw [q]; go_num)), (show ((vi ((xs.take k).countP (fun x => decide (x = xs.getD i 0)) : Nat)) : Value) = _ by have q := Z3z (fun x => decide (x = xs.getD i 0)) xs k om; simp only [b36, b41, if_true, if_false, Bool.false_eq_true] at q; first | (rw [q]; rfl) | (rw [q]; go_num)), by omega, H40, rfl⟩ om
    exact zs
   refine Zt <| ztn <| Z5 <| zqs H35 ?_
   refine qv 33 (.slice va xs.length vc) <| qv 34 (vi k) <| qv 35 (.pointer (some ⟨g24, o25 + ((k : Int)).toNat * 1, none⟩)) ?_ (hr := fun _ H' => (Zh (E := 25) kr kr kn rfl e27 rfl om om))
   refine qv 36 (vu (xs.getD k 0)) ?_ (hr := fun _ H' => (zl1 (H'.cellR 0 rfl (Z0P R28 0 kr (show o25 + ((k : Int)).toNat * 1 = o25 + k * 1 + 0 by omega)) (fun h => h))))
   refine qv 37 (.slice va xs.length vc) <| qv 38 (vi i) <| qv 39 (.pointer (some ⟨g29, o30 + ((i : Int)).toNat * 1, none⟩)) ?_ (hr := fun _ H' => (Zh (E := 25) kr kr kn rfl e32 rfl om om))
   refine qv 40 (vu (xs.getD i 0)) ?_ (hr := fun _ H' => (zl1 (H'.cellR 0 rfl (Z0P R33 0 kr (show o30 + ((i : Int)).toNat * 1 = o30 + i * 1 + 0 by omega)) (fun h => h))))
   refine qv 41 (.bool (decide ((xs.getD k 0) = (xs.getD i 0)))) <| Z17 fun w48 H49 => ?_
   apply ztn
   refine zid (fun b50 g51 => ?_) fun b50 g53 => ?_
   ·refine Zl <| wv 42 (vi ((xs.take k).countP (fun x => decide (x = xs.getD i 0)) : Nat)) <| wv 43 (vi ((((xs.take k).countP (fun x => decide (x = xs.getD i 0)) : Nat) : Int) + 1)) ?_ (hr := Z0g (z := (((xs.take k).countP (fun x => decide (x = xs.getD i 0)) : Nat) : Int) + 1) kr (IntWalk.i64_in _ (by have q1 := Z0q (fun x => decide (x < xs.getD i 0)) xs k; have q2 := Z0q (fun x => decide (x = xs.getD i 0)) xs k; omega)))
    refine wv 6 (vi ((((xs.take k).countP (fun x => decide (x = xs.getD i 0)) : Nat) : Int) + 1)) <| Zu <| Z7 <| ztn <| Zl <| wv 44 (vi ((k : Int) + 1)) ?_ (hr := Z0g (z := (k : Int) + 1) kr (IntWalk.i64_in _ (by have q1 := Z0q (fun x => decide (x < xs.getD i 0)) xs k; have q2 := Z0q (fun x => decide (x = xs.getD i 0)) xs k; omega)))
    refine wv 19 (vi ((k : Int) + 1)) <| Zu <| Z6 ?_ _ ⟨(k + 1), rfl, (show ((vi ((xs.take k).countP (fun x => decide (x < xs.getD i 0)) : Nat)) : Value) = _ by have q := Z3z (fun x => decide (x < xs.getD i 0)) xs k om; simp only [b36, b50, if_true, if_false, Bool.false_eq_true] at q; first | (rw [q]; rfl) | (rw [q]; go_num)), (show ((vi ((((xs.take k).countP (fun x => decide (x = xs.getD i 0)) : Nat) : Int) + 1)) : Value) = _ by have q := Z3z (fun x => decide (x = xs.getD i 0)) xs k om; simp only [b36, b50, if_true, if_false, Bool.false_eq_true] at q; first | (rw [q]; rfl) | (rw [q]; go_num)), by omega, H49, rfl⟩ om
    exact zs
   refine Zt <| Z7 <| ztn <| Zl <| wv 44 (vi ((k : Int) + 1)) ?_ (hr := Z0g (z := (k : Int) + 1) kr (IntWalk.i64_in _ (by have q1 := Z0q (fun x => decide (x < xs.getD i 0)) xs k; have q2 := Z0q (fun x => decide (x = xs.getD i 0)) xs k; omega)))
   refine wv 19 (vi ((k : Int) + 1)) <| Zu <| Z6 ?_ _ ⟨(k + 1), rfl, (show ((vi ((xs.take k).countP (fun x => decide (x < xs.getD i 0)) : Nat)) : Value) = _ by have q := Z3z (fun x => decide (x < xs.getD i 0)) xs k om; simp only [b36, b50, if_true, if_false, Bool.false_eq_true] at q; first | (rw [q]; rfl) | (rw [q]; go_num)), (show ((vi ((xs.take k).countP (fun x => decide (x = xs.getD i 0)) : Nat)) : Value) = _ by have q := Z3z (fun x => decide (x = xs.getD i 0)) xs k om; simp only [b36, b50, if_true, if_false, Bool.false_eq_true] at q; first | (rw [q]; rfl) | (rw [q]; go_num)), by omega, H49, rfl⟩ om
   exact zs
  refine zxb <| ztn <| Z5 ?_
  have e5 : xs.take k = xs := List.take_of_length_le om
  have c1 := cLt_le xs (xs.getD i 0)
  have c2 := cEq_le xs (xs.getD i 0)
  refine Zd 5 (vi (cLt xs (xs.getD i 0) : Nat)) (show ((vi ((xs.take k).countP (fun x => decide (x < xs.getD i 0)) : Nat)) : Value) = _ by rw [e5]; rfl) ?_
  refine Zd 6 (vi (cEq xs (xs.getD i 0) : Nat)) (show ((vi ((xs.take k).countP (fun x => decide (x = xs.getD i 0)) : Nat)) : Value) = _ by rw [e5]; rfl) ?_
  refine Zl <| wv 45 (vi (cLt xs (xs.getD i 0) : Nat)) <| wv 46 (.slice va xs.length vc) <| wv 47 (vi xs.length) <| wv 48 (vi ((xs.length : Int) / 2)) ?_ (hr := Zeo kr om om (IntWalk.i64_in _ om))
  refine wv 49 (.bool (decide (((cLt xs (xs.getD i 0) : Nat) : Int) ≤ ((xs.length : Int) / 2)))) <| wv 50 (.bool (decide (((cLt xs (xs.getD i 0) : Nat) : Int) ≤ ((xs.length : Int) / 2)))) ?_
  refine zil 50 (fun b57 g58 => ?_) fun b57 g70 => ?_
  ·refine wy 5 50 true 51 (.slice va xs.length vc) <| wy 5 50 true 52 (vi xs.length) <| wy 5 50 true 53 (vi ((xs.length : Int) / 2)) ?_ (hr := Zeo kr om om (IntWalk.i64_in _ om))
   refine wy 5 50 true 54 (vi (cLt xs (xs.getD i 0) : Nat)) <| wy 5 50 true 55 (vi (cEq xs (xs.getD i 0) : Nat)) <| wy 5 50 true 56 (vi (((cLt xs (xs.getD i 0) : Nat) : Int) + ((cEq xs (xs.getD i 0) : Nat) : Int))) ?_ (hr := Z0g (z := ((cLt xs (xs.getD i 0) : Nat) : Int) + ((cEq xs (xs.getD i 0) : Nat) : Int)) kr (IntWalk.i64_in _ om))
   refine wy 5 50 true 57 (.bool (decide (((xs.length : Int) / 2) < (((cLt xs (xs.getD i 0) : Nat) : Int) + ((cEq xs (xs.getD i 0) : Nat) : Int))))) <| wv 58 (.bool (decide (((xs.length : Int) / 2) < (((cLt xs (xs.getD i 0) : Nat) : Int) + ((cEq xs (xs.getD i 0) : Nat) : Int))))) <| znt ?_
   refine zid (fun b60 g61 => ?_) fun b60 g68 => ?_
   ·refine zsl <| wv 59 (.slice va xs.length vc) <| wv 60 (vi i) ?_
    obtain ⟨g63, o64, c65, e66, R67⟩ := SliceOf.atD hxs 0 (show i < xs.length by omega)
    refine wv 61 (.pointer (some ⟨g63, o64 + ((i : Int)).toNat * 1, none⟩)) ?_ (hr := Zh (E := 25) kr kr kn rfl e66 rfl om om)
    refine zw1 62 (vu (xs.getD i 0)) (H16.cellR 0 rfl (Z0P R67 0 kr (show o64 + ((i : Int)).toNat * 1 = o64 + i * 1 + 0 by omega)) (fun h => h)) <| wv 2 (vu (xs.getD i 0)) <| wv 3 (.bool true) <| znt <| Zq <| Z0k <| ZP <| Z1h <| Z0k <| ZP ?_
    refine ze2 (vu (xs.getD i 0)) (.bool true) ?_
    simp only [decide_eq_true_eq, Bool.and_eq_true] at *
    exact ⟨by rw [Zf5 (j := i) om om om om, decide_eq_true (show xs.length % 2 = 1 by omega)], H16.upd 0 rfl [] ne⟩
   refine Zt <| Z7 <| ztn <| Zl <| zwi 63 ((i : Int) + 1) <| wv 14 (vi ((i : Int) + 1)) <| Zu <| Z6 ?_ _ ⟨(i + 1), rfl, by omega, Z6W hno (by unfold Z6E; rintro ⟨q1, q2⟩; simp only [decide_eq_true_eq, decide_eq_false_iff_not, Bool.and_eq_false_iff] at *; omega), H16, rfl⟩ om
   exact zs
  iterate 7 refine wn 5 50 true ?_
  refine wv 58 (.bool false) <| znt <| Z2O rfl ?_
  refine Zt <| Z7 <| ztn <| Zl <| zwi 63 ((i : Int) + 1) <| wv 14 (vi ((i : Int) + 1)) <| Zu <| Z6 ?_ _ ⟨(i + 1), rfl, by omega, Z6W hno (by unfold Z6E; rintro ⟨q1, q2⟩; simp only [decide_eq_true_eq, decide_eq_false_iff_not, Bool.and_eq_false_iff] at *; omega), H16, rfl⟩ om
  exact zs
 refine zxb <| ztn <| zsl <| wv 2 (vu 0) <| wv 3 (.bool false) <| znt <| Zq <| ze2 (vu 0) (.bool false) ?_
 exact (Zfx (xs := xs) om (fun j hj => hno j om)).elim
theorem ZdZ (w : World) (v : Value) (xs : List Int) (hxs : ListAt Z4j 1 w v xs) (hx : xs.length ≤ 12) : Calls Tryz.prog 65 #[v] w fun e w' => e = .returned (.tuple #[.int .u64 (Z5Y xs), .bool (decide (xs.length % 2 = 1))]) ∧ Upd [] w w' := by
 obtain ⟨a, c, rfl⟩ := hxs.len
 exact Zds w a c xs hxs hx
end Go.Proofs.YtenihpghfdcpkaaGreat
