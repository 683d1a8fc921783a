/- WHAT IS PROVED: contracts and plain laws of Dt16, ArrB. Conditions: stated with each. -/
import Derived.Laws.MakeOwn
import Derived.Test.YtenihpghfdcpkaaGreatT05
import Derived.Test.YtenihpghfdcpkaaGreatT12
set_option maxHeartbeats 4000000
set_option maxRecDepth 100000
namespace Go.Proofs.YtenihpghfdcpkaaGreat
open Go.RowKit
abbrev kDt16_0 (p0 : DenyD) : List Value := ([(.int .i64 p0.r), (.int .i64 p0.i), (.int .i64 p0.sb), (.int .i64 p0.sm)] : List Value)
abbrev kDt16_1 (p0 : Option Addr) (p1 : List UInt8) (p2 : Nat) : Ck := rowC 5 1 (.slice p0 p1.length p2) p1.length (p1.flatMap encB)
theorem wDenyText_any (w : World) (s : DenyD) (hs : s.r ≤ 9223372036854775807 ∧ s.i ≤ 9223372036854775807) :
  Calls Tryz.prog 108 #[(.agg ⟨([(.int .i64 (s.r)), (.int .i64 (s.i)), (.int .i64 (s.sb)), (.int .i64 (s.sm))] : List Value)⟩)] w fun e w' => ∃ u, e = .returned u ∧ (rowC 5 1 u (denyB s.r s.i).length ((denyB s.r s.i).flatMap encB)).ok w' ∧ Upd [] w w' ∧ ∀ q_, (rowC 5 1 u (denyB s.r s.i).length ((denyB s.r s.i).flatMap encB)).fp q_ → w.heap.size ≤ q_ := by
 have H := Sat.start0 w
 refine calls_fr Tryz.func108 rfl 11 rfl (Nat.le_of_ble_eq_true rfl) ?_
 refine zsl <| zwd fun Kq kq => zdb (kDt16_0 s) H fun b2 w3 H4 => ?_
 refine kq _ _ <| wv 2 (.slice none 0 0) <| znt <| w_seq <| h_start H4 [restC w (fun _ => False), cellC b2 122 (kDt16_0 s)] 9 rfl (by kernel_rfl) (fun Hx => (Hx.pk [0, 1])) fun w5 H6 S7 => ?_
 refine hv0 1 S7 4 (pt b2 0) <| hv0 2 S7 5 (.int .i64 (s.r)) ?_ (he := fun _ H' => (zl1 (H'.cell 1 rfl rfl)))
 refine hv0 4 S7 7 (pt b2 1) <| hv0 5 S7 8 (.int .i64 (s.i)) ?_ (he := fun _ H' => (zl1 (H'.cell 1 rfl rfl)))
 refine zhd0 0 fun Kq kq => ?_
 refine zdc 3 (wText_any w5 ([100, 101, 110, 121]) (by decide)) ?_
 rintro _ w9 ⟨r10, a11, c12, rfl, k13, p14, q15⟩
 have H16 := H6.addU p14 k13 q15
 have H17 := H16.open 2 rfl
 refine ⟨_, rfl, ?_⟩
 have l18 := (show (rowB [100, 101, 110, 121]).length ≤ 14 from rowB_len _)
 have S19 := H17.pk [0, 1]
 refine kq _ _ S19 <| zhd0 3 fun Kq kq => ?_
 have l26 := intB_len s.r
 refine zdc 6 (wInt_any w9 r10 a11 c12 (rowB ([100, 101, 110, 121])) (H17.fn [2, 3]) (by omega) s.r (by omega)) ?_
 rintro _ w21 ⟨a23, c24, rfl, T22⟩
 have H27 := H17.tl [cellC r10 266 ([(.slice a23 (((rowB ([100, 101, 110, 121])) ++ intB s.r).length) c24)] : List Value), (kDt16_1 a23 ((rowB ([100, 101, 110, 121])) ++ intB s.r) c24)] [2, 3] [0, 1] T22 [2, 3, 0, 1]
 refine ⟨_, rfl, ?_⟩
 have S28 := H27.pk [0, 1]
 refine kq _ _ S28 <| zhd0 6 fun Kq kq => ?_
 have l35 := intB_len s.i
 refine zdc 9 (wInt_any w21 r10 a23 c24 ((rowB ([100, 101, 110, 121])) ++ intB s.r) (H27.fn [2, 3]) (by simp only [List.length_append, List.length_nil]; omega) s.i (by omega)) ?_
 rintro _ w30 ⟨a32, c33, rfl, T31⟩
 have H36 := H27.tl [cellC r10 266 ([(.slice a32 ((((rowB ([100, 101, 110, 121])) ++ intB s.r) ++ intB s.i).length) c33)] : List Value), (kDt16_1 a32 (((rowB ([100, 101, 110, 121])) ++ intB s.r) ++ intB s.i) c33)] [2, 3] [0, 1] T31 [2, 3, 0, 1]
 refine ⟨_, rfl, ?_⟩
 have S37 := H36.pk [0, 1]
 refine kq _ _ S37 <| zhd0 7 fun Kq kq => ?_
 refine zdc 10 (wBytes_any w30 r10 a32 c33 (((rowB ([100, 101, 110, 121])) ++ intB s.r) ++ intB s.i) (H36.fn [2, 3]) (by simp only [List.length_append, List.length_nil]; omega)) ?_
 rintro _ w39 ⟨u40, rfl, T41⟩
 have H42 := H36.tl [cellC r10 266 ([(.slice a32 ((((rowB ([100, 101, 110, 121])) ++ intB s.r) ++ intB s.i).length) c33)] : List Value), (kDt16_1 a32 (((rowB ([100, 101, 110, 121])) ++ intB s.r) ++ intB s.i) c33), rowC 5 1 u40 ((((rowB ([100, 101, 110, 121])) ++ intB s.r) ++ intB s.i).length) ((((rowB ([100, 101, 110, 121])) ++ intB s.r) ++ intB s.i).flatMap encB)] [2, 3] [0, 1] T41 [3, 4, 0, 1, 2]
 obtain ⟨a43, c44, rfl⟩ := ownsRow_shape (H42.at 4 rfl)
 refine ⟨_, rfl, ?_⟩
 have S45 := H42.pk [0, 1]
 refine kq _ _ S45 <| hv0 8 S45 2 (.slice a43 (((rowB ([100, 101, 110, 121])) ++ intB s.r) ++ intB s.i).length c44) <| zhf <| ztn <| w_ret <| ze1 (.slice a43 (((rowB ([100, 101, 110, 121])) ++ intB s.r) ++ intB s.i).length c44) ?_
 have hX : (((rowB ([100, 101, 110, 121])) ++ intB s.r) ++ intB s.i) = denyB s.r s.i := by simp only [denyB, List.flatten_cons, List.flatten_nil, List.append_nil, List.append_assoc, List.nil_append]
 exact ⟨_, rfl, (by rw [← hX]; exact H42.at 4 rfl), H42.upd 0 rfl [] (fun _ h => h.elim), (by rw [← hX]; exact H42.fresh 0 rfl (fun _ h => h) 4 rfl rfl)⟩
theorem rDenyText_any (w : World) (s : DenyD) (hs : s.r ≤ 9223372036854775807 ∧ s.i ≤ 9223372036854775807) :
  Calls Tryz.prog 41 #[(.agg ⟨([(.int .i64 (s.r)), (.int .i64 (s.i)), (.int .i64 (s.sb)), (.int .i64 (s.sm))] : List Value)⟩)] w fun e w' => ∃ u, e = .returned u ∧ (rowC 5 1 u (denyB s.r s.i).length ((denyB s.r s.i).flatMap encB)).ok w' ∧ Upd [] w w' ∧ ∀ q_, (rowC 5 1 u (denyB s.r s.i).length ((denyB s.r s.i).flatMap encB)).fp q_ → w.heap.size ≤ q_ := by
 have H := Sat.start0 w
 refine calls_fr Tryz.func41 rfl 14 rfl (Nat.le_of_ble_eq_true rfl) ?_
 refine zsl <| zwd fun Kq kq => zdb (kDt16_0 s) H fun b2 w3 H4 => ?_
 refine kq _ _ <| wv 2 (.slice none 0 0) <| znt <| w_seq <| h_start H4 [restC w (fun _ => False), cellC b2 122 (kDt16_0 s)] 12 rfl (by kernel_rfl) (fun Hx => (Hx.pk [0, 1])) fun w5 H6 S7 => ?_
 refine hv0 3 S7 6 (pt b2 0) <| hv0 4 S7 7 (.int .i64 (s.r)) ?_ (he := fun _ H' => (zl1 (H'.cell 1 rfl rfl)))
 refine hv0 6 S7 9 (pt b2 1) <| hv0 7 S7 10 (.int .i64 (s.i)) ?_ (he := fun _ H' => (zl1 (H'.cell 1 rfl rfl)))
 refine zhd0 0 fun Kq kq => ?_
 refine zdbs 5 1 1 (.int .u8 (0)) [(0, (.int .u8 (100))), (1, (.int .u8 (101))), (2, (.int .u8 (110))), (3, (.int .u8 (121)))] ([(.int .u8 (100)), (.int .u8 (101)), (.int .u8 (110)), (.int .u8 (121))] : List Value) H6 ?_
 intro b9 w10 (H11 : Sat w [restC w (fun _ => False), cellC b2 122 (kDt16_0 s), rowC 5 1 (.slice (some ⟨b9, 0, none⟩) 4 4) 4 ([(.int .u8 (100)), (.int .u8 (101)), (.int .u8 (110)), (.int .u8 (121))] : List Value)] w10)
 have H12 : Sat w [restC w (fun _ => False), cellC b2 122 (kDt16_0 s), rowC 5 1 (.slice (some ⟨b9, 0, none⟩) 4 4) 4 ([100, 101, 110, 121].flatMap encB)] w10 := H11.cast (by rw [show (([(.int .u8 (100)), (.int .u8 (101)), (.int .u8 (110)), (.int .u8 (121))] : List Value) : List Value) = [100, 101, 110, 121].flatMap encB from rfl])
 have S13 := H12.pk [0, 1]
 refine kq _ _ S13 <| zhd0 1 fun Kq kq => ?_
 refine d_convMark (e := 5) (s := [100, 101, 110, 121]) rfl H12 2 rfl (by kernel_rfl) (by kernel_rfl) rfl ?_
 intro w15 H16
 have S17 := H16.pk [0, 1]
 refine kq _ _ S17 <| zhd0 2 fun Kq kq => ?_
 refine zdc 5 (rRow_any w15 (.slice (some ⟨b9, 0, none⟩) 4 4) ([100, 101, 110, 121]) (ListAt.ofTxt (H16.at 2 rfl)) (by simp)) ?_
 rintro _ w19 ⟨u20, rfl, k21, p22, q23⟩
 have H24 := H16.addU p22 k21 q23
 obtain ⟨a25, c26, rfl⟩ := ownsRow_shape (H24.at 3 rfl)
 refine ⟨_, rfl, ?_⟩
 have S27 := H24.pk [0, 1]
 refine kq _ _ S27 <| zhd0 5 fun Kq kq => ?_
 refine zdc 8 (rInt_any w19 s.r (by omega)) ?_
 rintro _ w29 ⟨u30, rfl, k31, p32, q33⟩
 have H34 := H24.addU p32 k31 q33
 obtain ⟨a35, c36, rfl⟩ := ownsRow_shape (H34.at 4 rfl)
 refine ⟨_, rfl, ?_⟩
 have S37 := H34.pk [0, 1]
 refine kq _ _ S37 <| zhd0 8 fun Kq kq => ?_
 refine zdc 11 (rInt_any w29 s.i (by omega)) ?_
 rintro _ w39 ⟨u40, rfl, k41, p42, q43⟩
 have H44 := H34.addU p42 k41 q43
 obtain ⟨a45, c46, rfl⟩ := ownsRow_shape (H44.at 5 rfl)
 refine ⟨_, rfl, ?_⟩
 have S47 := H44.pk [0, 1]
 refine kq _ _ S47 <| zhd0 9 fun Kq kq => ?_
 refine zdbs 84 1 24 (.slice none 0 0) [(0, (.slice a25 ((rowB ([100, 101, 110, 121])).length) c26)), (1, (.slice a35 ((intB s.r).length) c36)), (2, (.slice a45 ((intB s.i).length) c46))] ([(.slice a25 ((rowB ([100, 101, 110, 121])).length) c26), (.slice a35 ((intB s.r).length) c36), (.slice a45 ((intB s.i).length) c46)] : List Value) H44 ?_
 intro b49 w50 H51
 have S52 := H51.pk [0, 1]
 refine kq _ _ S52 <| zhd0 10 fun Kq kq => ?_
 have l54 := rowB_len ([100, 101, 110, 121])
 simp only [List.length_cons, List.length_nil] at l54
 have l55 := intB_len s.r
 have l56 := intB_len s.i
 refine zdc 13 (rJoin_any w50 (.slice (some ⟨b49, 0, none⟩) 3 3) [(.slice a25 ((rowB ([100, 101, 110, 121])).length) c26), (.slice a35 ((intB s.r).length) c36), (.slice a45 ((intB s.i).length) c46)] [(rowB ([100, 101, 110, 121])), (intB s.r), (intB s.i)] (ListAt.row (enc := encW) (sz := 1) (xs := [(.slice a25 ((rowB ([100, 101, 110, 121])).length) c26), (.slice a35 ((intB s.r).length) c36), (.slice a45 ((intB s.i).length) c46)]) encW_len (by decide) (H51.at 6 rfl)) (Parts.cons (ListAt.row (enc := encB) (sz := 1) encB_len (by decide) (H51.at 3 rfl)) (Parts.cons (ListAt.row (enc := encB) (sz := 1) encB_len (by decide) (H51.at 4 rfl)) (Parts.cons (ListAt.row (enc := encB) (sz := 1) encB_len (by decide) (H51.at 5 rfl)) Parts.nil))) (by simp only [List.flatten_cons, List.flatten_nil, List.length_append, List.length_nil]; omega) (by simp)) ?_
 rintro _ w57 ⟨u58, rfl, k59, p60, q61⟩
 have H62 := H51.addU p60 k59 q61
 obtain ⟨a63, c64, rfl⟩ := ownsRow_shape (H62.at 7 rfl)
 refine ⟨_, rfl, ?_⟩
 have S65 := H62.pk [0, 1]
 refine kq _ _ S65 <| hv0 11 S65 2 (.slice a63 (([(rowB ([100, 101, 110, 121])), (intB s.r), (intB s.i)].flatten).length) c64) <| zhf <| ztn <| w_ret <| ze1 (.slice a63 (([(rowB ([100, 101, 110, 121])), (intB s.r), (intB s.i)].flatten).length) c64) ?_
 have hX : ([(rowB ([100, 101, 110, 121])), (intB s.r), (intB s.i)].flatten) = denyB s.r s.i := by rfl
 exact ⟨_, rfl, (by rw [← hX]; exact H62.at 7 rfl), H62.upd 0 rfl [] (fun _ h => h.elim), (by rw [← hX]; exact H62.fresh 0 rfl (fun _ h => h) 7 rfl rfl)⟩
section
variable {g T n : Nat} {A : List Bool} {w w0 w' : World} {G : List Ck}
end
section
variable {P : Program} {n : Nat} {f : Nat → Value} {w w0 : World} {dst : Option Tmp} {ty : TypeId} {pos : String} {aft : Array Edge} {gd : Option (Nat × Bool)} {K : Act → World → Prop} {Q : Exit → Act → World → Prop} {G : List Ck}
end
section
variable {κ ν : Type} [DecidableEq κ] {P : Program} {n : Nat} {f : Nat → Value} {w w0 : World} {dst : Option Tmp} {ty : TypeId} {pos : String} {aft : Array Edge} {gd : Option (Nat × Bool)} {Q : Exit → Act → World → Prop} {G : List Ck} {T kt et : TypeId} {b : Nat} {encK : κ → Value} {encV : ν → Value} {l : List (κ × ν)}
end
theorem findNow_bool (a : Bool) : ∀ (es : List MapEntry) (ks : List Bool) (n : Nat), es.map (·.key) = ks.map Value.bool →
  Instr.findNow .bool (.bool a) es n = some ((ks.idxOf? a).bind fun i => (es[i]?).map fun e => (n + i, e.val)) := by
 intro es
 induction es with
 | nil => intro ks n h; cases ks <;> simp_all [Instr.findNow]
 | cons e es ih =>
  intro ks n h
  cases ks with
  | nil => simp at h
  | cons x ks =>
   simp only [List.map_cons, List.cons.injEq] at h
   obtain ⟨h1, h2⟩ := h
   by_cases hax : a = x
   ·subst hax
    simp [Instr.findNow, h1, Instr.sameNow, List.idxOf?_cons]
   ·have hx : (x == a) = false := by simp; exact fun h => hax h.symm
    have hx' : (a == x) = false := by simpa using hax
    simp only [Instr.findNow, h1, Instr.sameNow, hx', ih ks (n + 1) h2, List.idxOf?_cons, hx, Bool.false_eq_true, if_false]
    cases hi : ks.idxOf? a with
    | none => simp
    | some i => simp [Nat.add_assoc, Nat.add_comm 1 i]
theorem KeyTy.bool {P : Program} {k : TypeId} (hk : P.underlying k = some .bool) : KeyTy P k Value.bool where
 check w em a := MapKept.run_checkKey (d := .bool) hk (by simp [MapKept.IsKey]) em 9999
 find w a es ks h := by
  simp [Instr.findKey, run_underlying hk, findNow_bool a es ks 0 h]
 same a := by simp [Instr.sameBits]
end Go.Proofs.YtenihpghfdcpkaaGreat
