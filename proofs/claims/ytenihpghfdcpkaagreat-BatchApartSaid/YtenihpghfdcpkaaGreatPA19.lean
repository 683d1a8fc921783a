/- WHAT IS PROVED: contracts and plain laws of Dt16, ArrB. Conditions: stated with each. -/
import Derived.Laws.MakeOwn
import Derived.Test.YtenihpghfdcpkaaGreatPA05
import Derived.Test.YtenihpghfdcpkaaGreatPA13
import Derived.Test.YtenihpghfdcpkaaGreatPA14
set_option maxHeartbeats 4000000
set_option maxRecDepth 100000
namespace Go.Proofs.YtenihpghfdcpkaaGreat
open Go.RowKit
abbrev Z7W (p0 : Z1d) : List Value := ([(.int .i64 p0.r), (.int .i64 p0.i), (.int .i64 p0.sb), (.int .i64 p0.sm)] : List Value)
abbrev Zah (p0 : Option Addr) (p1 : List UInt8) (p2 : Nat) : Ck := Zc 5 1 (.slice p0 p1.length p2) p1.length (p1.flatMap Zy)
theorem Z8c (w : World) (s : Z1d) (hs : s.r ≤ 9223372036854775807 ∧ s.i ≤ 9223372036854775807) :
  Calls Tryz.prog 108 #[(.agg ⟨([(.int .i64 (s.r)), (.int .i64 (s.i)), (.int .i64 (s.sb)), (.int .i64 (s.sm))] : List Value)⟩)] w fun e w' => ∃ u, e = .returned u ∧ (Zc 5 1 u (Z02 s.r s.i).length ((Z02 s.r s.i).flatMap Zy)).ok w' ∧ Upd [] w w' ∧ ∀ q_, (Zc 5 1 u (Z02 s.r s.i).length ((Z02 s.r s.i).flatMap Zy)).fp q_ → w.heap.size ≤ q_ := by
 have H := Sat.start0 w
 refine Z8 Tryz.func108 rfl 11 rfl kn ?_
 refine zsl <| zy <| zdb (Z7W s) H fun b2 w3 H4 => ?_
 refine kk <| wv 2 (.slice none 0 0) <| znt <| Z5 <| Z08 H4 [Z3 w (fun _ => False), Z0 b2 122 (Z7W s)] 9 rfl kr (fun Hx => (Hx.pk [0, 1])) fun w5 H6 S7 => ?_
 refine hv0 1 S7 4 (pt b2 0) <| hv0 2 S7 5 (vi s.r) ?_ (he := fun _ H' => (zl1 (H'.cell 1 rfl rfl)))
 refine hv0 4 S7 7 (pt b2 1) <| hv0 5 S7 8 (vi s.i) ?_ (he := fun _ H' => (zl1 (H'.cell 1 rfl rfl)))
 refine zhy 0 ?_
 refine zdc 3 (Zdw w5 ([100, 101, 110, 121]) (by decide)) ?_
 rintro _ w9 ⟨r10, a11, c12, rfl, k13, p14, q15⟩
 have H16 := H6.addU p14 k13 q15
 have H17 := H16.open 2 rfl
 refine ⟨_, rfl, ?_⟩
 have l18 := (show (ZK [100, 101, 110, 121]).length ≤ 14 from Z0D _)
 have S19 := H17.pk [0, 1]
 refine kh S19 <| zhy 3 ?_
 have l26 := ZM s.r
 refine zdc 6 (Z34 w9 r10 a11 c12 (ZK ([100, 101, 110, 121])) (H17.fn [2, 3]) om s.r om) ?_
 rintro _ w21 ⟨a23, c24, rfl, T22⟩
 have H27 := H17.tl [Z0 r10 266 ([(.slice a23 (((ZK ([100, 101, 110, 121])) ++ Zi s.r).length) c24)] : List Value), (Zah a23 ((ZK ([100, 101, 110, 121])) ++ Zi s.r) c24)] [2, 3] [0, 1] T22 [2, 3, 0, 1]
 refine ⟨_, rfl, ?_⟩
 have S28 := H27.pk [0, 1]
 refine kh S28 <| zhy 6 ?_
 have l35 := ZM s.i
 refine zdc 9 (Z34 w21 r10 a23 c24 ((ZK ([100, 101, 110, 121])) ++ Zi s.r) (H27.fn [2, 3]) (by simp only [List.length_append, List.length_nil]; omega) s.i om) ?_
 rintro _ w30 ⟨a32, c33, rfl, T31⟩
 have H36 := H27.tl [Z0 r10 266 ([(.slice a32 ((((ZK ([100, 101, 110, 121])) ++ Zi s.r) ++ Zi s.i).length) c33)] : List Value), (Zah a32 (((ZK ([100, 101, 110, 121])) ++ Zi s.r) ++ Zi s.i) c33)] [2, 3] [0, 1] T31 [2, 3, 0, 1]
 refine ⟨_, rfl, ?_⟩
 have S37 := H36.pk [0, 1]
 refine kh S37 <| zhy 7 ?_
 refine zdc 10 (Z4U w30 r10 a32 c33 (((ZK ([100, 101, 110, 121])) ++ Zi s.r) ++ Zi s.i) (H36.fn [2, 3]) (by simp only [List.length_append, List.length_nil]; omega)) ?_
 rintro _ w39 ⟨u40, rfl, T41⟩
 have H42 := H36.tl [Z0 r10 266 ([(.slice a32 ((((ZK ([100, 101, 110, 121])) ++ Zi s.r) ++ Zi s.i).length) c33)] : List Value), (Zah a32 (((ZK ([100, 101, 110, 121])) ++ Zi s.r) ++ Zi s.i) c33), Zc 5 1 u40 ((((ZK ([100, 101, 110, 121])) ++ Zi s.r) ++ Zi s.i).length) ((((ZK ([100, 101, 110, 121])) ++ Zi s.r) ++ Zi s.i).flatMap Zy)] [2, 3] [0, 1] T41 [3, 4, 0, 1, 2]
 obtain ⟨a43, c44, rfl⟩ := Z2 (H42.at 4 rfl)
 refine ⟨_, rfl, ?_⟩
 have S45 := H42.pk [0, 1]
 refine kh S45 <| hv0 8 S45 2 (.slice a43 (((ZK ([100, 101, 110, 121])) ++ Zi s.r) ++ Zi s.i).length c44) <| zhf <| ztn <| Zq <| ze1 (.slice a43 (((ZK ([100, 101, 110, 121])) ++ Zi s.r) ++ Zi s.i).length c44) ?_
 have hX : (((ZK ([100, 101, 110, 121])) ++ Zi s.r) ++ Zi s.i) = Z02 s.r s.i := by simp only [Z02, List.flatten_cons, List.flatten_nil, List.append_nil, List.append_assoc, List.nil_append]
 exact ⟨_, rfl, (by rw [← hX]; exact H42.at 4 rfl), H42.upd 0 rfl [] ne, (by rw [← hX]; exact H42.fresh 0 rfl (fun _ h => h) 4 rfl rfl)⟩
theorem Z5l (w : World) (s : Z1d) (hs : s.r ≤ 9223372036854775807 ∧ s.i ≤ 9223372036854775807) :
  Calls Tryz.prog 41 #[(.agg ⟨([(.int .i64 (s.r)), (.int .i64 (s.i)), (.int .i64 (s.sb)), (.int .i64 (s.sm))] : List Value)⟩)] w fun e w' => ∃ u, e = .returned u ∧ (Zc 5 1 u (Z02 s.r s.i).length ((Z02 s.r s.i).flatMap Zy)).ok w' ∧ Upd [] w w' ∧ ∀ q_, (Zc 5 1 u (Z02 s.r s.i).length ((Z02 s.r s.i).flatMap Zy)).fp q_ → w.heap.size ≤ q_ := by
 have H := Sat.start0 w
 refine Z8 Tryz.func41 rfl 14 rfl kn ?_
 refine zsl <| zy <| zdb (Z7W s) H fun b2 w3 H4 => ?_
 refine kk <| wv 2 (.slice none 0 0) <| znt <| Z5 <| Z08 H4 [Z3 w (fun _ => False), Z0 b2 122 (Z7W s)] 12 rfl kr (fun Hx => (Hx.pk [0, 1])) fun w5 H6 S7 => ?_
 refine hv0 3 S7 6 (pt b2 0) <| hv0 4 S7 7 (vi s.r) ?_ (he := fun _ H' => (zl1 (H'.cell 1 rfl rfl)))
 refine hv0 6 S7 9 (pt b2 1) <| hv0 7 S7 10 (vi s.i) ?_ (he := fun _ H' => (zl1 (H'.cell 1 rfl rfl)))
 refine zhy 0 ?_
 refine Z2w 5 1 1 (.int .u8 (0)) [(0, (.int .u8 (100))), (1, (.int .u8 (101))), (2, (.int .u8 (110))), (3, (.int .u8 (121)))] ([(.int .u8 (100)), (.int .u8 (101)), (.int .u8 (110)), (.int .u8 (121))] : List Value) H6 ?_
 intro b9 w10 H11
 have H12 := H11.ct 2 rfl (Zc 5 1 (.slice (some ⟨b9, 0, none⟩) 4 4) 4 ([100, 101, 110, 121].flatMap Zy)) (by rw [show (([(.int .u8 (100)), (.int .u8 (101)), (.int .u8 (110)), (.int .u8 (121))] : List Value) : List Value) = [100, 101, 110, 121].flatMap Zy from rfl])
 have S13 := H12.pk [0, 1]
 refine kh S13 <| zhy 1 ?_
 refine Z1W (e := 5) (s := [100, 101, 110, 121]) rfl H12 2 rfl kr kr rfl ?_
 intro w15 H16
 have S17 := H16.pk [0, 1]
 refine kh S17 <| zhy 2 ?_
 refine zdc 5 (Z4d w15 (.slice (some ⟨b9, 0, none⟩) 4 4) ([100, 101, 110, 121]) (ListAt.ofTxt (H16.at 2 rfl)) (by simp)) ?_
 rintro _ w19 ⟨u20, rfl, k21, p22, q23⟩
 have H24 := H16.addU p22 k21 q23
 obtain ⟨a25, c26, rfl⟩ := Z2 (H24.at 3 rfl)
 refine ⟨_, rfl, ?_⟩
 have S27 := H24.pk [0, 1]
 refine kh S27 <| zhy 5 ?_
 refine zdc 8 (Z0Q w19 s.r om) ?_
 rintro _ w29 ⟨u30, rfl, k31, p32, q33⟩
 have H34 := H24.addU p32 k31 q33
 obtain ⟨a35, c36, rfl⟩ := Z2 (H34.at 4 rfl)
 refine ⟨_, rfl, ?_⟩
 have S37 := H34.pk [0, 1]
 refine kh S37 <| zhy 8 ?_
 refine zdc 11 (Z0Q w29 s.i om) ?_
 rintro _ w39 ⟨u40, rfl, k41, p42, q43⟩
 have H44 := H34.addU p42 k41 q43
 obtain ⟨a45, c46, rfl⟩ := Z2 (H44.at 5 rfl)
 refine ⟨_, rfl, ?_⟩
 have S47 := H44.pk [0, 1]
 refine kh S47 <| zhy 9 ?_
 refine Z2w 84 1 24 (.slice none 0 0) [(0, (.slice a25 ((ZK ([100, 101, 110, 121])).length) c26)), (1, (.slice a35 ((Zi s.r).length) c36)), (2, (.slice a45 ((Zi s.i).length) c46))] ([(.slice a25 ((ZK ([100, 101, 110, 121])).length) c26), (.slice a35 ((Zi s.r).length) c36), (.slice a45 ((Zi s.i).length) c46)] : List Value) H44 ?_
 intro b49 w50 H51
 have S52 := H51.pk [0, 1]
 refine kh S52 <| zhy 10 ?_
 have l54 := Z0D ([100, 101, 110, 121])
 simp only [List.length_cons, List.length_nil] at l54
 have l55 := ZM s.r
 have l56 := ZM s.i
 refine zdc 13 (Z1c w50 (.slice (some ⟨b49, 0, none⟩) 3 3) [(.slice a25 ((ZK ([100, 101, 110, 121])).length) c26), (.slice a35 ((Zi s.r).length) c36), (.slice a45 ((Zi s.i).length) c46)] [(ZK ([100, 101, 110, 121])), (Zi s.r), (Zi s.i)] (ListAt.row (enc := Z9s) (sz := 1) (xs := [(.slice a25 ((ZK ([100, 101, 110, 121])).length) c26), (.slice a35 ((Zi s.r).length) c36), (.slice a45 ((Zi s.i).length) c46)]) Z1F (by decide) (H51.at 6 rfl)) (Parts.cons (ListAt.row (enc := Zy) (sz := 1) Zk (by decide) (H51.at 3 rfl)) (Parts.cons (ListAt.row (enc := Zy) (sz := 1) Zk (by decide) (H51.at 4 rfl)) (Parts.cons (ListAt.row (enc := Zy) (sz := 1) Zk (by decide) (H51.at 5 rfl)) Parts.nil))) (by simp only [List.flatten_cons, List.flatten_nil, List.length_append, List.length_nil]; omega) (by simp)) ?_
 rintro _ w57 ⟨u58, rfl, k59, p60, q61⟩
 have H62 := H51.addU p60 k59 q61
 obtain ⟨a63, c64, rfl⟩ := Z2 (H62.at 7 rfl)
 refine ⟨_, rfl, ?_⟩
 have S65 := H62.pk [0, 1]
 refine kh S65 <| hv0 11 S65 2 (.slice a63 (([(ZK ([100, 101, 110, 121])), (Zi s.r), (Zi s.i)].flatten).length) c64) <| zhf <| ztn <| Zq <| ze1 (.slice a63 (([(ZK ([100, 101, 110, 121])), (Zi s.r), (Zi s.i)].flatten).length) c64) ?_
 have hX : ([(ZK ([100, 101, 110, 121])), (Zi s.r), (Zi s.i)].flatten) = Z02 s.r s.i := by rfl
 exact ⟨_, rfl, (by rw [← hX]; exact H62.at 7 rfl), H62.upd 0 rfl [] ne, (by rw [← hX]; exact H62.fresh 0 rfl (fun _ h => h) 7 rfl rfl)⟩
section
variable {g T n : Nat} {A : List Bool} {w w0 w' : World} {G : List Ck}
end
section
variable {P : Program} {n : Nat} {f : Nat → Value} {w w0 : World} {dst : Option Tmp} {ty : TypeId} {pos : String} {aft : Array Edge} {gd : Option (Nat × Bool)} {K : Act → World → Prop} {Q : Exit → Act → World → Prop} {G : List Ck}
end
section
variable {κ ν : Type} [DecidableEq κ] {P : Program} {n : Nat} {f : Nat → Value} {w w0 : World} {dst : Option Tmp} {ty : TypeId} {pos : String} {aft : Array Edge} {gd : Option (Nat × Bool)} {Q : Exit → Act → World → Prop} {G : List Ck} {T kt et : TypeId} {b : Nat} {encK : κ → Value} {encV : ν → Value} {l : List (κ × ν)}
end
theorem Z8t (a : Bool) : ∀ (es : List MapEntry) (ks : List Bool) (n : Nat), es.map (·.key) = ks.map Value.bool →
  Instr.findNow .bool (.bool a) es n = some ((ks.idxOf? a).bind fun i => (es[i]?).map fun e => (n + i, e.val)) := by
 intro es
 induction es with
 | nil => intro ks n h; cases ks <;> simp_all [Instr.findNow]
 | cons e es ih =>
  intro ks n h
  cases ks with
  | nil => simp at h
  | cons x ks =>
   simp only [List.map_cons, List.cons.injEq] at h
   obtain ⟨h1, h2⟩ := h
   by_cases hax : a = x
   ·subst hax
    simp [Instr.findNow, h1, Instr.sameNow, List.idxOf?_cons]
   ·have hx : (x == a) = false := by simp; exact fun h => hax h.symm
    have hx' : (a == x) = false := by simpa using hax
    simp only [Instr.findNow, h1, Instr.sameNow, hx', ih ks (n + 1) h2, List.idxOf?_cons, hx, Bool.false_eq_true, if_false]
    cases hi : ks.idxOf? a with
    | none => simp
    | some i => simp [Nat.add_assoc, Nat.add_comm 1 i]
theorem KeyTy.bool {P : Program} {k : TypeId} (hk : P.underlying k = some .bool) : KeyTy P k Value.bool where
 check w em a := MapKept.run_checkKey (d := .bool) hk (by simp [MapKept.IsKey]) em 9999
 find w a es ks h := by
  simp [Instr.findKey, run_underlying hk, Z8t a es ks 0 h]
 same a := by simp [Instr.sameBits]
end Go.Proofs.YtenihpghfdcpkaaGreat
