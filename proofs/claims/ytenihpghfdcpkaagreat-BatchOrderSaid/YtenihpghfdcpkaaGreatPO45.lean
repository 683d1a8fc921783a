/- WHAT IS PROVED: contracts and plain laws of MapNil, EnB. Conditions: stated with each. -/
import Derived.Test.YtenihpghfdcpkaaGreatPO02
import Derived.Test.YtenihpghfdcpkaaGreatPO03
import Derived.Test.YtenihpghfdcpkaaGreatPO05
import Derived.Test.YtenihpghfdcpkaaGreatPO13
import Derived.Test.YtenihpghfdcpkaaGreatPO24
set_option maxHeartbeats 4000000
set_option maxRecDepth 100000
namespace Go.Proofs.YtenihpghfdcpkaaGreat
open Go.RowKit
def MapLike {κ ν : Type} (w : World) (mv : Value) (encK : κ → Value) (encV : ν → Value) (l : List (κ × ν)) : Prop := (∃ b, mv = .map (some b) ∧ MapAt w b encK encV l) ∨ (mv = .map none ∧ l = [])
theorem MapLike.now {κ ν : Type} {encK : κ → Value} {encV : ν → Value} {w w' : World} {mv : Value} {l : List (κ × ν)} {G : List Ck} (h : MapLike w mv encK encV l) (H : Sat w G w') (j : Nat) (hj : G[j]? = some (ZF w fun _ => False)) : MapLike w' mv encK encV l := by
 rcases h with ⟨b, e, hm⟩ | h
 ·exact .inl ⟨b, e, H.roMap j hj hm (fun h => h)⟩
 ·exact .inr h
section
variable {κ ν : Type} [DecidableEq κ] {encK : κ → Value} {encV : ν → Value} {P : Program} {k kt et T : TypeId} {w w' : World} {mv : Value} {l : List (κ × ν)} {n : Nat} {f : Nat → Value} {dst : Option Tmp} {ty : TypeId} {pos : String} {aft : Array Edge} {gd : Option (Nat × Bool)} {G : List Ck}
theorem ZbW (K : KeyTy P k encK) {t e : TypeId} (ht : P.underlying t = some (.map k e)) {z : Value} (hz : ∀ w, (zeroValue e).run P w = .ok z w) (a : κ) (w : World) : (Instr.lookup t (.map none) (encK a) false).run P w = .ok z w := by
 have hf := K.find w a [] [] rfl
 simp [Instr.lookup, run_underlying ht, Result.andThen, K.check, hf, hz]
theorem Zbu {x y : Operand} {z : Value} (K : KeyTy P kt encK) (hT : P.underlying T = some (.map kt et)) (hz : ∀ w, (zeroValue et).run P w = .ok z w) (hx : ev n f x = mv) (a : κ) (hy : ev n f y = encK a) (h : MapLike w mv encK encV l) {v : Value} (hv : ((ZB l a).map encV).getD z = v) :
  (execOp (ev n f) ⟨dst, .lookup T x y false, ty, pos, aft, gd⟩).run P w = .ok (.value v) w := by
 rcases h with ⟨b, e, hm⟩ | ⟨e, el⟩
 ·exact Z25 K hT hz (hx.trans e) a hy hm hv
 ·have := ZbW K hT hz a w
  subst el
  have hv' : z = v := by simpa [ZB] using hv
  simp only [execOp, hx, hy, e]
  simp [this, Result.andThen, hv']
end
abbrev kEnB_0 (p0 : Int) (p1 : Int) (p2 : Option Addr) (p3 : Nat) (p4 : Nat) (p5 : Value) (p6 : Value) : List Value := ([i6 p0, u6 p1, (.slice p2 p3 p4), p5, p6] : LV)
abbrev kEnB_1 (p0 : PrR) (p1 : Nat) : List Value := ([i6 p0.r, i6 p0.e, u6 p0.f, (.slice p0.ca p1 p0.cc), i6 p0.sb, i6 p0.sm] : LV)
abbrev kEnB_2 : List Value := ([i6 0, i6 0, u6 0, (.slice none 0 0), i6 0, i6 0] : LV)
abbrev kEnB_3 (p0 : Zg) (p1 : CeR) (p2 : Nat) : List Value := ([i6 p0.cl, i6 p0.seq] : LV) ++ hc p0.h ++ ([i6 p0.len, i6 p0.sb, i6 p0.sm, (.slice p1.sa p2 p1.sc)] : LV)
abbrev kEnB_4 : List Value := ([i6 0, i6 0] : LV) ++ hc ZC ++ ([i6 0, i6 0, i6 0, (.slice none 0 0)] : LV)
abbrev Z4n (p0 : Int) (p1 : Int) : List Value := ([i6 p0, i6 p1] : LV)
abbrev Z5H (p0 : Zg) (p1 : Int) : List Value := ([i6 p0.cl, i6 p0.seq] : LV) ++ hc p0.h ++ ([u6 p1] : LV)
abbrev Z7I : List Value := ([i6 0, i6 0] : LV) ++ hc ZC ++ ([u6 0] : LV)
abbrev Z5a (p0 : Z1q) : List Value := ([i6 p0.cl, i6 p0.sq] : LV) ++ hc p0.h ++ ([u6 p0.t] : LV)
abbrev ZfS (p0 : Option Addr) (p1 : List Z1q) (p2 : Nat) : Ck := Zh 63 35 (.slice p0 p1.length p2) p1.length (p1.flatMap Z2F)
theorem Z9j (w : World) (last tm ep : Int) (vo vt : Value) (mv : Value) (LM : List (NmD × Bool)) (hLM : MapLike w mv nmV Value.bool LM) (pa : Option Addr) (pc : Nat) (P : List PrR) (hP : ListAt Z0C 6 w (.slice pa P.length pc) P) (hPo : ∀ i, i < P.length → PrOk w (P.getD i pr0)) (hsm : PSm P) (hlP : P.length ≤ 1000) (hlC : ∀ i, i < P.length → (P.getD i pr0).C.length ≤ 1000) :
  Calls Tryz.prog 14 #[u6 last, (mv), (.agg ⟨([i6 ep, u6 tm, (.slice pa P.length pc), (vo), (vt)] : LV)⟩)] w fun e w' => ∃ (oa : Option Addr) (oc : Nat) (O : List Z1q), e = .returned (.slice oa O.length oc) ∧ O.Perm ((Z7n last tm (lgM LM) (P.flatMap (·.C))).map (·.2)) ∧ (O.Pairwise fun a b => ¬ Zbd b a) ∧ (Zh 63 35 (.slice oa O.length oc) O.length (O.flatMap Z2F)).ok w' ∧ Upd [] w w' ∧ ∀ q_, (Zh 63 35 (.slice oa O.length oc) O.length (O.flatMap Z2F)).fp q_ → w.heap.size ≤ q_ := by
 have H := Sat.start0 w
 obtain ⟨lg, hlg⟩ : ∃ lg, lg = lgM LM := ⟨_, rfl⟩
 refine Za Tryz.func14 rfl 92 rfl kn ?_
 let Aa := kEnB_0 ep tm pa P.length pc vo vt
 refine zsl <| zy <| zdb Aa H fun b2 w3 H4 => ?_
 refine kk <| wv 6 (.slice none 0 0) <| Z0G <| zy <| Z2l nmV Z2y rfl H4 fun b6 w7 H8 => ?_
 refine kk <| wv 7 (.map (some b6)) <| znt <| Z7 <| zsl <| wv 19 (pt b2 2) <| zw1 20 (.slice pa P.length pc) (H8.cell 1 rfl rfl) <| wv 21 (vi P.length) <| wv 22 (vi 0) <| znt ?_
 refine Zc <| Zq ([9, 11, 12, 13, 14] ++ List.range' 22 57) (fun F_ W_ m_ => ∃ (i : Nat) (M : Zbh), F_ 22 = (vi i) ∧ (i ≤ P.length) ∧ (M = Z7n last tm lg ((P.take i).flatMap (·.C))) ∧ Sat w [zR w, Z0 b2 47 Aa, Z0u b6 nmV Z2y M] W_ ∧ m_ = P.length - i) _ ⟨0, [], (show ((vi 0) : Value) = _ by first | rfl | go_num), (Nat.zero_le _), rfl, H8, rfl⟩ ?_
 rintro g9 w10 _ ⟨i, M, v12, hi, hM, H11, rfl⟩
 refine Ze 22 _ v12 ?_
 refine zsl <| wv 23 (.bool (decide ((i : Int) < P.length))) <| znt <| Z7 ?_
 refine zid (fun b14 g15 => ?_) fun b14 g168 => ?_
 ·refine Zm <| ztn <| Z7 <| Zc <| zsl ?_
  obtain ⟨g17, o18, c19, e20, R21⟩ := SliceOf.atD hP pr0 (show i < P.length by omega)
  refine wv 24 (.pointer (some ⟨g17, o18 + ((i : Int)).toNat * 6, none⟩)) ?_ (hr := Zd (E := 71) kr kr kn rfl e20 rfl om om)
  let A7 := kEnB_1 (P.getD i pr0) (((P.getD i pr0).C).length)
  refine wv 25 (.agg ⟨A7⟩) ?_ (hr := ZE (vs := A7) rfl kr kr kn (H11.runR 0 rfl (Z0k R21 0 kr (show o18 + ((i : Int)).toNat * 6 = o18 + i * 6 + 0 by omega)) (fun h => h)))
  refine zy <| zda (kEnB_2) H11 fun b23 w24 H25 => ?_
  refine kk <| zy <| Z1p A7 H25 3 fun w27 H28 => ?_
  refine kk <| Z0G <| wv 26 (pt b23 3) <| zw1 27 (.slice (P.getD i pr0).ca ((P.getD i pr0).C).length (P.getD i pr0).cc) (H28.cell 3 rfl rfl) <| wv 28 (vi (((P.getD i pr0).C).length)) <| wv 29 (vi 0) <| znt <| Zc ?_
  have hlCi := hlC i om
  refine Zq ([11, 12, 13, 14] ++ List.range' 29 49) (fun F_ W_ m_ => ∃ (k : Nat) (M2 : Zbh), F_ 29 = (vi k) ∧ (k ≤ (P.getD i pr0).C.length) ∧ (M2 = Z7n last tm lg ((P.take i).flatMap (·.C) ++ (P.getD i pr0).C.take k)) ∧ Sat w [zR w, Z0 b2 47 Aa, Z0u b6 nmV Z2y M2, Z0 b23 71 A7] W_ ∧ m_ = (P.getD i pr0).C.length - k) _ ⟨0, M, (show ((vi 0) : Value) = _ by first | rfl | go_num), (Nat.zero_le _), (by rw [hM, List.take_zero, List.append_nil]), H28, rfl⟩ ?_
  rintro g30 w31 _ ⟨k, M2, v33, hk, hM2, H32, rfl⟩
  refine Ze 29 _ v33 ?_
  refine zsl <| wv 30 (.bool (decide ((k : Int) < (((P.getD i pr0).C).length : Int)))) <| znt <| Z7 ?_
  refine zid (fun b35 g36 => ?_) fun b35 g165 => ?_
  ·refine Zm <| ztn <| Z7 <| Zc <| zsl ?_
   obtain ⟨g38, o39, c40, e41, R42⟩ := SliceOf.atD (hPo i om).1 ce0 (show k < ((P.getD i pr0).C).length by omega)
   refine wv 31 (.pointer (some ⟨g38, o39 + ((k : Int)).toNat * 38, none⟩)) ?_ (hr := Zd (E := 76) kr kr kn rfl e41 rfl om om)
   let A3 := kEnB_3 ((((P.getD i pr0).C).getD k ce0).x) (((P.getD i pr0).C).getD k ce0) (((((P.getD i pr0).C).getD k ce0).S).length)
   refine wv 32 (.agg ⟨A3⟩) ?_ (hr := ZE (vs := A3) rfl kr kr kn (H32.runR 0 rfl (Z0k R42 0 kr (show o39 + ((k : Int)).toNat * 38 = o39 + k * 38 + 0 by omega)) (fun h => h)))
   refine zy <| zda (kEnB_4) H32 fun b44 w45 H46 => ?_
   refine kk <| zy <| Z1p A3 H46 4 fun w48 H49 => ?_
   refine kk <| znt <| Z7 <| ZX H49 [zR w, Z0 b2 47 Aa, Z0u b6 nmV Z2y M2, Z0 b23 71 A7, Z0 b44 76 A3] 11 rfl kr (fun Hx => (Hx.pk [0, 1, 2, 3, 4])) fun w51 H52 S53 => ?_
   let A8 : Value := .agg ⟨(Z4n ((((P.getD i pr0).C).getD k ce0).x.cl) ((((P.getD i pr0).C).getD k ce0).x.seq))⟩
   refine hv0 0 S53 33 (pt b44 0) <| hv0 1 S53 34 (pt b44 0) <| hv0 2 S53 35 A8 ?_ (he := fun _ H' => (zlN (vs := (Z4n ((((P.getD i pr0).C).getD k ce0).x.cl) ((((P.getD i pr0).C).getD k ce0).x.seq))) (H'.at 4 rfl)))
   let Ae := hc (((P.getD i pr0).C).getD k ce0).x.h
   refine hv0 3 S53 36 (pt b44 0) <| hv0 4 S53 37 (pt b44 2) <| hv0 5 S53 38 (.agg ⟨Ae⟩) ?_ (he := fun _ H' => (zlN (vs := Ae) (H'.at 4 rfl)))
   refine hv0 6 S53 39 (.agg ⟨A3⟩) ?_ (he := fun _ H' => (Z37 (vs := A3) rfl kr kr kn (H'.at 4 rfl) kr))
   let A0 : Value := .bool ((ZB M2 (⟨(((P.getD i pr0).C).getD k ce0).x.cl, (((P.getD i pr0).C).getD k ce0).x.seq⟩ : NmD)).isSome)
   let A1 := Zz ((((P.getD i pr0).C).getD k ce0).S)
   let A2 : Value := .agg ⟨(Z5a ((ZB M2 (⟨(((P.getD i pr0).C).getD k ce0).x.cl, (((P.getD i pr0).C).getD k ce0).x.seq⟩ : NmD)).getD Z1K))⟩
   let A4 : Value := .bool ((ZB LM (⟨(((P.getD i pr0).C).getD k ce0).x.cl, (((P.getD i pr0).C).getD k ce0).x.seq⟩ : NmD)).getD false)
   let A5 : Value := .bool (!((ZB M2 (⟨(((P.getD i pr0).C).getD k ce0).x.cl, (((P.getD i pr0).C).getD k ce0).x.seq⟩ : NmD)).isSome))
   let A6 : Value := .bool (Z3C (⟨(((P.getD i pr0).C).getD k ce0).x.cl, (((P.getD i pr0).C).getD k ce0).x.seq, ((((P.getD i pr0).C).getD k ce0).x.h), Zz ((((P.getD i pr0).C).getD k ce0).S)⟩ : Z1q) ((ZB M2 (⟨(((P.getD i pr0).C).getD k ce0).x.cl, (((P.getD i pr0).C).getD k ce0).x.seq⟩ : NmD)).getD Z1K))
   let A9 : Value := .agg ⟨(Z5H ((((P.getD i pr0).C).getD k ce0).x) A1)⟩
   let Ab : Value := .bool (decide (A1 > tm))
   let Ac : Value := .bool (decide (A1 ≤ last))
   refine Z66 7 9 rfl rfl kr (Z8 rfl) (Z8 rfl) (fun Kq kq => ?_) (fun Kq kq => ?_)
   ·refine zdq 40 (Z5O w51 (((P.getD i pr0).C).getD k ce0).x (((P.getD i pr0).C).getD k ce0).sa (((P.getD i pr0).C).getD k ce0).sc ((((P.getD i pr0).C).getD k ce0).S) (ListAt.now H52 0 rfl (Z6R hPo (i := i) (k := k) om om)) (hsm.at (i := i) (k := k) om om).2.1) H52 ?_
    intro w55 H56
    have S58 := H56.pk [0, 1, 2, 3, 4]
    refine kq _ _ S58 <| Z0H 8 rfl kr kr kr (fun _ _ _ h => h) S58 (Z8 rfl) (d := 41) (v := A9) rfl (fun _ H' => kr) ?_
    refine zhy 9 ?_
    refine zda (Z7I) H56 ?_
    intro b60 w61 H62
    have S63 := H62.pk [0, 1, 2, 3, 4]
    refine kh S63 <| zhy 10 ?_
    refine Z1p (Z5H ((((P.getD i pr0).C).getD k ce0).x) A1) H62 5 ?_
    intro w65 H66
    have S68 := H66.pk [0, 1, 2, 3, 4]
    refine kh S68 <| zhf <| ztn <| Z7 <| zsl <| wv 42 (pt b60 34) <| zw1 43 (vu A1) (H66.cell 5 rfl kr) <| wv 44 (vu last) <| wv 45 Ac <| wv 46 Ac ?_
    refine zil 46 (fun b69 g70 => ?_) fun b69 g73 => ?_
    ·iterate 5 refine wn 4 46 false ?_
     refine wv 52 (.bool true) <| wv 53 (.bool true) ?_
     iterate 4 refine wn 11 53 false ?_
     refine wv 58 (.bool true) <| znt <| Z0n rfl ?_
     refine Z4H <| Z21 <| Z3o <| ztn <| Zl <| zwi 77 ((k : Int) + 1) <| wv 29 (vi ((k : Int) + 1)) <| Zn ?_
     have H72 := H66.pk [0, 1, 2, 3]
     refine Z5 ?_ _ ⟨(k + 1), M2, rfl, om, (Z1G hM2 om (Z3c (skip1 b69))), H72, rfl⟩ om
     exact zs
    refine wy 4 46 false 47 (pt b60 34) <| wy 4 46 false 48 (vu A1) ?_ (hr := zl1 (H66.cell 5 rfl kr))
    refine wy 4 46 false 49 (pt b2 1) <| wy 4 46 false 50 (vu tm) ?_ (hr := zl1 (H66.cell 1 rfl rfl))
    refine wy 4 46 false 51 Ab <| wv 52 Ab <| wv 53 Ab ?_
    refine zil 53 (fun b75 g76 => ?_) fun b75 g79 => ?_
    ·iterate 4 refine wn 11 53 false ?_
     refine wv 58 (.bool true) <| znt <| Z0n rfl ?_
     refine Z4H <| Z21 <| Z3o <| ztn <| Zl <| zwi 77 ((k : Int) + 1) <| wv 29 (vi ((k : Int) + 1)) <| Zn ?_
     have H78 := H66.pk [0, 1, 2, 3]
     refine Z5 ?_ _ ⟨(k + 1), M2, rfl, om, (Z1G hM2 om (Z3c (skip2 b75))), H78, rfl⟩ om
     exact zs
    refine wy 11 53 false 54 (mv) <| wy 11 53 false 55 (pt b60 0) <| wy 11 53 false 56 A8 ?_ (hr := zlN (vs := (Z4n ((((P.getD i pr0).C).getD k ce0).x.cl) ((((P.getD i pr0).C).getD k ce0).x.seq))) (H66.at 5 rfl))
    refine wy 11 53 false 57 A4 ?_ (hr := Zbu (kt := 59) (et := 4) nmK kr (fun w => by kernel_rfl) rfl (⟨(((P.getD i pr0).C).getD k ce0).x.cl, (((P.getD i pr0).C).getD k ce0).x.seq⟩ : NmD) rfl (hLM.now H66 0 rfl) (Z87 Value.bool _ _))
    refine wv 58 A4 <| znt ?_
    refine (ZS ((ZB LM (⟨(((P.getD i pr0).C).getD k ce0).x.cl, (((P.getD i pr0).C).getD k ce0).x.seq⟩ : NmD)).getD false)).elim (fun b81 => ?_) (fun b81 => ?_)
    ·refine Z4z _ b81 ?_
     refine Z4H <| Z21 <| Z3o <| ztn <| Zl <| zwi 77 ((k : Int) + 1) <| wv 29 (vi ((k : Int) + 1)) <| Zn ?_
     have H82 := H66.pk [0, 1, 2, 3]
     refine Z5 ?_ _ ⟨(k + 1), M2, rfl, om, (Z1G hM2 om (Z3c (skip3 hlg b81))), H82, rfl⟩ om
     exact zs
    refine Z46 _ b81 ?_
    refine Zm <| ztn <| zsl <| wv 60 (.map (some b6)) <| wv 61 (pt b60 0) <| zwN 62 (Z4n ((((P.getD i pr0).C).getD k ce0).x.cl) ((((P.getD i pr0).C).getD k ce0).x.seq)) (H66.at 5 rfl) <| wv 63 (.tuple #[A2, A0]) ?_ (hr := Z4k (kt := 59) (et := 63) nmK kr Z9v rfl (⟨(((P.getD i pr0).C).getD k ce0).x.cl, (((P.getD i pr0).C).getD k ce0).x.seq⟩ : NmD) rfl (H66.at 2 rfl) (Z87 Z2y _ _) rfl)
    refine wv 59 (.tuple #[A2, A0]) <| wv 64 A2 <| wv 65 A0 <| zy <| zda (Z7I) H66 fun b84 w85 H86 => ?_
    refine kk <| zy <| Z1p (Z5a ((ZB M2 (⟨(((P.getD i pr0).C).getD k ce0).x.cl, (((P.getD i pr0).C).getD k ce0).x.seq⟩ : NmD)).getD Z1K)) H86 6 fun w88 H89 => ?_
    refine kk <| wv 14 A0 <| Z0G <| wv 66 A0 <| wv 67 A5 <| wv 68 A5 ?_
    refine (ZS (!((ZB M2 (⟨(((P.getD i pr0).C).getD k ce0).x.cl, (((P.getD i pr0).C).getD k ce0).x.seq⟩ : NmD)).isSome))).elim (fun b91 => ?_) (fun b91 => ?_)
    ·have g92 := Zf b91
     refine Z0z 68 (.bool true) (congrArg Value.bool b91) ?_
     iterate 3 refine wn 2 68 false ?_
     refine wv 72 (.bool true) <| znt <| Z0n rfl ?_
     refine Zl <| wv 73 (.map (some b6)) <| wv 74 (pt b60 0) <| zwN 75 (Z4n ((((P.getD i pr0).C).getD k ce0).x.cl) ((((P.getD i pr0).C).getD k ce0).x.seq)) (H89.at 5 rfl) <| zwN 76 (Z5H ((((P.getD i pr0).C).getD k ce0).x) A1) (H89.at 5 rfl) <| zy <| Z0P (kt := 59) (et := 63) rfl H89 2 rfl nmK kr rfl (⟨(((P.getD i pr0).C).getD k ce0).x.cl, (((P.getD i pr0).C).getD k ce0).x.seq⟩ : NmD) rfl (⟨(((P.getD i pr0).C).getD k ce0).x.cl, (((P.getD i pr0).C).getD k ce0).x.seq, ((((P.getD i pr0).C).getD k ce0).x.h), Zz ((((P.getD i pr0).C).getD k ce0).S)⟩ : Z1q) rfl fun w95 H96 => ?_
     refine kk <| Zn <| Z6 <| ztn <| Zl <| zwi 77 ((k : Int) + 1) <| wv 29 (vi ((k : Int) + 1)) <| Zn ?_
     have H97 := H96.pk [0, 1, 2, 3]
     refine Z5 ?_ _ ⟨(k + 1), (Z2p M2 (⟨(((P.getD i pr0).C).getD k ce0).x.cl, (((P.getD i pr0).C).getD k ce0).x.seq⟩ : NmD) (⟨(((P.getD i pr0).C).getD k ce0).x.cl, (((P.getD i pr0).C).getD k ce0).x.seq, ((((P.getD i pr0).C).getD k ce0).x.h), Zz ((((P.getD i pr0).C).getD k ce0).S)⟩ : Z1q)), rfl, om, (Z1G hM2 om (Z6L (Zcd hlg b69 b75 b81) (ZdC (by have q := b91; simpa using q)))), H97, rfl⟩ om
     exact zs
    have g98 := Z3 b91
    refine Z0z 68 (.bool false) (congrArg Value.bool b91) ?_
    refine wy 2 68 false 69 A9 ?_ (hr := Z37 (vs := (Z5H ((((P.getD i pr0).C).getD k ce0).x) A1)) rfl kr kr kn (H89.at 5 rfl) kr)
    refine wy 2 68 false 70 A2 ?_ (hr := Z37 (vs := (Z5a ((ZB M2 (⟨(((P.getD i pr0).C).getD k ce0).x.cl, (((P.getD i pr0).C).getD k ce0).x.seq⟩ : NmD)).getD Z1K))) rfl kr kr kn (H89.at 6 rfl) kr)
    refine Z48 (Z0a 2 68 false rfl kr rfl kr) (fun Kq kq => ?_)
    refine zdq 71 (Z9y w88 (⟨(((P.getD i pr0).C).getD k ce0).x.cl, (((P.getD i pr0).C).getD k ce0).x.seq, ((((P.getD i pr0).C).getD k ce0).x.h), Zz ((((P.getD i pr0).C).getD k ce0).S)⟩ : Z1q) ((ZB M2 (⟨(((P.getD i pr0).C).getD k ce0).x.cl, (((P.getD i pr0).C).getD k ce0).x.seq⟩ : NmD)).getD Z1K)) H89 ?_
    intro w101 H102
    refine kq _ _ <| wv 72 A6 <| znt ?_
    refine (ZS (Z3C (⟨(((P.getD i pr0).C).getD k ce0).x.cl, (((P.getD i pr0).C).getD k ce0).x.seq, ((((P.getD i pr0).C).getD k ce0).x.h), Zz ((((P.getD i pr0).C).getD k ce0).S)⟩ : Z1q) ((ZB M2 (⟨(((P.getD i pr0).C).getD k ce0).x.cl, (((P.getD i pr0).C).getD k ce0).x.seq⟩ : NmD)).getD Z1K))).elim (fun b104 => ?_) (fun b104 => ?_)
    ·refine Z4z _ b104 ?_
     refine Zl <| wv 73 (.map (some b6)) <| wv 74 (pt b60 0) <| zwN 75 (Z4n ((((P.getD i pr0).C).getD k ce0).x.cl) ((((P.getD i pr0).C).getD k ce0).x.seq)) (H102.at 5 rfl) <| zwN 76 (Z5H ((((P.getD i pr0).C).getD k ce0).x) A1) (H102.at 5 rfl) <| zy <| Z0P (kt := 59) (et := 63) rfl H102 2 rfl nmK kr rfl (⟨(((P.getD i pr0).C).getD k ce0).x.cl, (((P.getD i pr0).C).getD k ce0).x.seq⟩ : NmD) rfl (⟨(((P.getD i pr0).C).getD k ce0).x.cl, (((P.getD i pr0).C).getD k ce0).x.seq, ((((P.getD i pr0).C).getD k ce0).x.h), Zz ((((P.getD i pr0).C).getD k ce0).S)⟩ : Z1q) rfl fun w106 H107 => ?_
     refine kk <| Zn <| Z6 <| ztn <| Zl <| zwi 77 ((k : Int) + 1) <| wv 29 (vi ((k : Int) + 1)) <| Zn ?_
     have H108 := H107.pk [0, 1, 2, 3]
     refine Z5 ?_ _ ⟨(k + 1), (Z2p M2 (⟨(((P.getD i pr0).C).getD k ce0).x.cl, (((P.getD i pr0).C).getD k ce0).x.seq⟩ : NmD) (⟨(((P.getD i pr0).C).getD k ce0).x.cl, (((P.getD i pr0).C).getD k ce0).x.seq, ((((P.getD i pr0).C).getD k ce0).x.h), Zz ((((P.getD i pr0).C).getD k ce0).S)⟩ : Z1q)), rfl, om, (Z1G hM2 om (Zbj (Zcd hlg b69 b75 b81) (by have q := b91; simpa using q) b104)), H108, rfl⟩ om
     exact zs
    refine Z46 _ b104 ?_
    refine Zm <| Z6 <| ztn <| Zl <| zwi 77 ((k : Int) + 1) <| wv 29 (vi ((k : Int) + 1)) <| Zn ?_
    have H109 := H102.pk [0, 1, 2, 3]
    refine Z5 ?_ _ ⟨(k + 1), M2, rfl, om, (Z1G hM2 om (Zdl (Zcd hlg b69 b75 b81) (by have q := b91; simpa using q) b104)), H109, rfl⟩ om
    exact zs
   refine zda (Z7I) H52 ?_
   intro b110 w111 H112
   have S113 := H112.pk [0, 1, 2, 3, 4]
   refine kq _ _ S113 <| zhy 7 ?_
   refine zdq 40 (Z5O w111 (((P.getD i pr0).C).getD k ce0).x (((P.getD i pr0).C).getD k ce0).sa (((P.getD i pr0).C).getD k ce0).sc ((((P.getD i pr0).C).getD k ce0).S) (ListAt.now H112 0 rfl (Z6R hPo (i := i) (k := k) om om)) (hsm.at (i := i) (k := k) om om).2.1) H112 ?_
   intro w115 H116
   have S118 := H116.pk [0, 1, 2, 3, 4]
   refine kh S118 <| Z0H 8 rfl kr kr kr (fun _ _ _ h => h) S118 (Z8 rfl) (d := 41) (v := A9) rfl (fun _ H' => kr) ?_
   refine zhy 10 ?_
   refine Z1p (Z5H ((((P.getD i pr0).C).getD k ce0).x) A1) H116 5 ?_
   intro w120 H121
   have S123 := H121.pk [0, 1, 2, 3, 4]
   refine kh S123 <| zhf <| ztn <| Z7 <| zsl <| wv 42 (pt b110 34) <| zw1 43 (vu A1) (H121.cell 5 rfl kr) <| wv 44 (vu last) <| wv 45 Ac <| wv 46 Ac ?_
   refine zil 46 (fun b124 g125 => ?_) fun b124 g128 => ?_
   ·iterate 5 refine wn 4 46 false ?_
    refine wv 52 (.bool true) <| wv 53 (.bool true) ?_
    iterate 4 refine wn 11 53 false ?_
    refine wv 58 (.bool true) <| znt <| Z0n rfl ?_
    refine Z4H <| Z21 <| Z3o <| ztn <| Zl <| zwi 77 ((k : Int) + 1) <| wv 29 (vi ((k : Int) + 1)) <| Zn ?_
    have H127 := H121.pk [0, 1, 2, 3]
    refine Z5 ?_ _ ⟨(k + 1), M2, rfl, om, (Z1G hM2 om (Z3c (skip1 b124))), H127, rfl⟩ om
    exact zs
   refine wy 4 46 false 47 (pt b110 34) <| wy 4 46 false 48 (vu A1) ?_ (hr := zl1 (H121.cell 5 rfl kr))
   refine wy 4 46 false 49 (pt b2 1) <| wy 4 46 false 50 (vu tm) ?_ (hr := zl1 (H121.cell 1 rfl rfl))
   refine wy 4 46 false 51 Ab <| wv 52 Ab <| wv 53 Ab ?_
   refine zil 53 (fun b130 g131 => ?_) fun b130 g134 => ?_
   ·iterate 4 refine wn 11 53 false ?_
    refine wv 58 (.bool true) <| znt <| Z0n rfl ?_
    refine Z4H <| Z21 <| Z3o <| ztn <| Zl <| zwi 77 ((k : Int) + 1) <| wv 29 (vi ((k : Int) + 1)) <| Zn ?_
    have H133 := H121.pk [0, 1, 2, 3]
    refine Z5 ?_ _ ⟨(k + 1), M2, rfl, om, (Z1G hM2 om (Z3c (skip2 b130))), H133, rfl⟩ om
    exact zs
   refine wy 11 53 false 54 (mv) <| wy 11 53 false 55 (pt b110 0) <| wy 11 53 false 56 A8 ?_ (hr := zlN (vs := (Z4n ((((P.getD i pr0).C).getD k ce0).x.cl) ((((P.getD i pr0).C).getD k ce0).x.seq))) (H121.at 5 rfl))
   refine wy 11 53 false 57 A4 ?_ (hr := Zbu (kt := 59) (et := 4) nmK kr (fun w => by kernel_rfl) rfl (⟨(((P.getD i pr0).C).getD k ce0).x.cl, (((P.getD i pr0).C).getD k ce0).x.seq⟩ : NmD) rfl (hLM.now H121 0 rfl) (Z87 Value.bool _ _))
   refine wv 58 A4 <| znt ?_
   refine (ZS ((ZB LM (⟨(((P.getD i pr0).C).getD k ce0).x.cl, (((P.getD i pr0).C).getD k ce0).x.seq⟩ : NmD)).getD false)).elim (fun b136 => ?_) (fun b136 => ?_)
   ·refine Z4z _ b136 ?_
    refine Z4H <| Z21 <| Z3o <| ztn <| Zl <| zwi 77 ((k : Int) + 1) <| wv 29 (vi ((k : Int) + 1)) <| Zn ?_
    have H137 := H121.pk [0, 1, 2, 3]
    refine Z5 ?_ _ ⟨(k + 1), M2, rfl, om, (Z1G hM2 om (Z3c (skip3 hlg b136))), H137, rfl⟩ om
    exact zs
   refine Z46 _ b136 ?_
   refine Zm <| ztn <| zsl <| wv 60 (.map (some b6)) <| wv 61 (pt b110 0) <| zwN 62 (Z4n ((((P.getD i pr0).C).getD k ce0).x.cl) ((((P.getD i pr0).C).getD k ce0).x.seq)) (H121.at 5 rfl) <| wv 63 (.tuple #[A2, A0]) ?_ (hr := Z4k (kt := 59) (et := 63) nmK kr Z9v rfl (⟨(((P.getD i pr0).C).getD k ce0).x.cl, (((P.getD i pr0).C).getD k ce0).x.seq⟩ : NmD) rfl (H121.at 2 rfl) (Z87 Z2y _ _) rfl)
   refine wv 59 (.tuple #[A2, A0]) <| wv 64 A2 <| wv 65 A0 <| zy <| zda (Z7I) H121 fun b139 w140 H141 => ?_
   refine kk <| zy <| Z1p (Z5a ((ZB M2 (⟨(((P.getD i pr0).C).getD k ce0).x.cl, (((P.getD i pr0).C).getD k ce0).x.seq⟩ : NmD)).getD Z1K)) H141 6 fun w143 H144 => ?_
   refine kk <| wv 14 A0 <| Z0G <| wv 66 A0 <| wv 67 A5 <| wv 68 A5 ?_
   refine (ZS (!((ZB M2 (⟨(((P.getD i pr0).C).getD k ce0).x.cl, (((P.getD i pr0).C).getD k ce0).x.seq⟩ : NmD)).isSome))).elim (fun b146 => ?_) (fun b146 => ?_)
   ·have g147 := Zf b146
    refine Z0z 68 (.bool true) (congrArg Value.bool b146) ?_
    iterate 3 refine wn 2 68 false ?_
    refine wv 72 (.bool true) <| znt <| Z0n rfl ?_
    refine Zl <| wv 73 (.map (some b6)) <| wv 74 (pt b110 0) <| zwN 75 (Z4n ((((P.getD i pr0).C).getD k ce0).x.cl) ((((P.getD i pr0).C).getD k ce0).x.seq)) (H144.at 5 rfl) <| zwN 76 (Z5H ((((P.getD i pr0).C).getD k ce0).x) A1) (H144.at 5 rfl) <| zy <| Z0P (kt := 59) (et := 63) rfl H144 2 rfl nmK kr rfl (⟨(((P.getD i pr0).C).getD k ce0).x.cl, (((P.getD i pr0).C).getD k ce0).x.seq⟩ : NmD) rfl (⟨(((P.getD i pr0).C).getD k ce0).x.cl, (((P.getD i pr0).C).getD k ce0).x.seq, ((((P.getD i pr0).C).getD k ce0).x.h), Zz ((((P.getD i pr0).C).getD k ce0).S)⟩ : Z1q) rfl fun w150 H151 => ?_
    refine kk <| Zn <| Z6 <| ztn <| Zl <| zwi 77 ((k : Int) + 1) <| wv 29 (vi ((k : Int) + 1)) <| Zn ?_
    have H152 := H151.pk [0, 1, 2, 3]
    refine Z5 ?_ _ ⟨(k + 1), (Z2p M2 (⟨(((P.getD i pr0).C).getD k ce0).x.cl, (((P.getD i pr0).C).getD k ce0).x.seq⟩ : NmD) (⟨(((P.getD i pr0).C).getD k ce0).x.cl, (((P.getD i pr0).C).getD k ce0).x.seq, ((((P.getD i pr0).C).getD k ce0).x.h), Zz ((((P.getD i pr0).C).getD k ce0).S)⟩ : Z1q)), rfl, om, (Z1G hM2 om (Z6L (Zcd hlg b124 b130 b136) (ZdC (by have q := b146; simpa using q)))), H152, rfl⟩ om
    exact zs
   have g153 := Z3 b146
   refine Z0z 68 (.bool false) (congrArg Value.bool b146) ?_
   refine wy 2 68 false 69 A9 ?_ (hr := Z37 (vs := (Z5H ((((P.getD i pr0).C).getD k ce0).x) A1)) rfl kr kr kn (H144.at 5 rfl) kr)
   refine wy 2 68 false 70 A2 ?_ (hr := Z37 (vs := (Z5a ((ZB M2 (⟨(((P.getD i pr0).C).getD k ce0).x.cl, (((P.getD i pr0).C).getD k ce0).x.seq⟩ : NmD)).getD Z1K))) rfl kr kr kn (H144.at 6 rfl) kr)
   refine Z48 (Z0a 2 68 false rfl kr rfl kr) (fun Kq kq => ?_)
   refine zdq 71 (Z9y w143 (⟨(((P.getD i pr0).C).getD k ce0).x.cl, (((P.getD i pr0).C).getD k ce0).x.seq, ((((P.getD i pr0).C).getD k ce0).x.h), Zz ((((P.getD i pr0).C).getD k ce0).S)⟩ : Z1q) ((ZB M2 (⟨(((P.getD i pr0).C).getD k ce0).x.cl, (((P.getD i pr0).C).getD k ce0).x.seq⟩ : NmD)).getD Z1K)) H144 ?_
   intro w156 H157
   refine kq _ _ <| wv 72 A6 <| znt ?_
   refine (ZS (Z3C (⟨(((P.getD i pr0).C).getD k ce0).x.cl, (((P.getD i pr0).C).getD k ce0).x.seq, ((((P.getD i pr0).C).getD k ce0).x.h), Zz ((((P.getD i pr0).C).getD k ce0).S)⟩ : Z1q) ((ZB M2 (⟨(((P.getD i pr0).C).getD k ce0).x.cl, (((P.getD i pr0).C).getD k ce0).x.seq⟩ : NmD)).getD Z1K))).elim (fun b159 => ?_) (fun b159 => ?_)
   ·refine Z4z _ b159 ?_
    refine Zl <| wv 73 (.map (some b6)) <| wv 74 (pt b110 0) <| zwN 75 (Z4n ((((P.getD i pr0).C).getD k ce0).x.cl) ((((P.getD i pr0).C).getD k ce0).x.seq)) (H157.at 5 rfl) <| zwN 76 (Z5H ((((P.getD i pr0).C).getD k ce0).x) A1) (H157.at 5 rfl) <| zy <| Z0P (kt := 59) (et := 63) rfl H157 2 rfl nmK kr rfl (⟨(((P.getD i pr0).C).getD k ce0).x.cl, (((P.getD i pr0).C).getD k ce0).x.seq⟩ : NmD) rfl (⟨(((P.getD i pr0).C).getD k ce0).x.cl, (((P.getD i pr0).C).getD k ce0).x.seq, ((((P.getD i pr0).C).getD k ce0).x.h), Zz ((((P.getD i pr0).C).getD k ce0).S)⟩ : Z1q) rfl fun w161 H162 => ?_
    refine kk <| Zn <| Z6 <| ztn <| Zl <| zwi 77 ((k : Int) + 1) <| wv 29 (vi ((k : Int) + 1)) <| Zn ?_
    have H163 := H162.pk [0, 1, 2, 3]
    refine Z5 ?_ _ ⟨(k + 1), (Z2p M2 (⟨(((P.getD i pr0).C).getD k ce0).x.cl, (((P.getD i pr0).C).getD k ce0).x.seq⟩ : NmD) (⟨(((P.getD i pr0).C).getD k ce0).x.cl, (((P.getD i pr0).C).getD k ce0).x.seq, ((((P.getD i pr0).C).getD k ce0).x.h), Zz ((((P.getD i pr0).C).getD k ce0).S)⟩ : Z1q)), rfl, om, (Z1G hM2 om (Zbj (Zcd hlg b124 b130 b136) (by have q := b146; simpa using q) b159)), H163, rfl⟩ om
    exact zs
   refine Z46 _ b159 ?_
   refine Zm <| Z6 <| ztn <| Zl <| zwi 77 ((k : Int) + 1) <| wv 29 (vi ((k : Int) + 1)) <| Zn ?_
   have H164 := H157.pk [0, 1, 2, 3]
   refine Z5 ?_ _ ⟨(k + 1), M2, rfl, om, (Z1G hM2 om (Zdl (Zcd hlg b124 b130 b136) (by have q := b146; simpa using q) b159)), H164, rfl⟩ om
   exact zs
  refine zxb <| Z6 <| ztn <| Zl <| zwi 78 ((i : Int) + 1) <| wv 22 (vi ((i : Int) + 1)) <| Zn ?_
  have H167 := H32.pk [0, 1, 2]
  refine Z5 ?_ _ ⟨(i + 1), M2, rfl, om, (by rw [Z6w om, hM2, List.take_of_length_le (l := (P.getD i pr0).C) om]), H167, rfl⟩ om
  exact zs
 refine zxb <| ztn <| Z7 ?_
 have hiP : i = P.length := by omega
 have hMf : M = Z7n last tm lg (P.flatMap (·.C)) := by rw [hM, hiP, List.take_length]
 have hok : EOk M := by rw [hMf]; exact Z8H hsm.all
 have hlM := hok.len
 refine Zl <| wv 15 (.slice none 0 0) <| znt <| Z7 <| zsl <| wv 79 (.map (some b6)) <| zy <| Zdj (kt := 59) (et := 63) rfl H11 2 rfl kr rfl fun r171 w172 H173 => ?_
 refine kk <| znt <| Zc ?_
 have H174 := H173.addNil 63 35
 refine Zq [15, 17, 81, 82, 83, 84, 85, 86, 87, 88] (fun F_ W_ m_ => ∃ (seen rest : Zbh) (oa : Option Addr) (oc : Nat) (O : List Z1q), F_ 15 = (.slice oa O.length oc) ∧ (M.Perm (seen ++ rest)) ∧ (O = seen.map (·.2)) ∧ Sat w [zR w, Z0 b2 47 Aa, ZdR r171 b6 nmV Z2y M seen, (ZfS oa O oc)] W_ ∧ m_ = rest.length) _ ⟨[], M, none, 0, [], (by first | rfl | go_num), (List.Perm.refl _), rfl, H174, rfl⟩ ?_
 rintro g175 w176 _ ⟨seen, rest, oa, oc, O, v178, hperm, hO, H177, rfl⟩
 refine Ze 15 _ v178 ?_
 have hsl : seen.length ≤ 12 := by have h1 := hperm.length_eq; rw [List.length_append] at h1; omega
 have hsm2 : O.length ≤ 12 := by rw [hO, List.length_map]; exact hsl
 refine zsl <| zy ?_
 refine ZfF rfl H177 2 rfl rfl ?_ ?_
 ·intro p181
  refine kk <| wv 82 (.bool false) <| znt <| Z7 <| Z1W rfl ?_
  refine zxb <| ztn <| zsl <| wv 89 (.slice oa O.length oc) <| zy <| zdc 90 (Za2 w176 oa oc O (H177.fn [3]) om) ?_
  rintro _ w183 ⟨D184, rfl, p185, s186, T187⟩
  have H188 := H177.tl [(ZfS oa D184 oc)] [3] [0, 1, 2] T187 [1, 2, 3, 0]
  refine ⟨_, rfl, ?_⟩
  refine kk <| znt <| Z7 <| Ze 15 (.slice oa D184.length oc) (show ((.slice oa O.length oc) : Value) = _ by rw [p185.length_eq]) ?_
  refine Zl <| wv 91 (.slice oa D184.length oc) <| wv 6 (.slice oa D184.length oc) <| znt <| Zk <| ze1 (.slice oa D184.length oc) ?_
  exact ⟨oa, oc, D184, rfl, by rw [← hlg, ← hMf]; exact (hO ▸ p185).trans (p181.map _).symm, s186, H188.at 3 rfl, H188.upd 0 rfl [] ne, H188.fresh 0 rfl (fun _ h => h) 3 rfl rfl⟩
 intro y189 t190 w191 p192 H193
 refine kk <| wv 82 (.bool true) <| znt <| Z7 <| Z0n rfl ?_
 let Ad : Value := .agg ⟨(Z5a y189.2)⟩
 refine Zm <| ztn <| Zc <| zsl <| wv 83 (.tuple #[(.agg ⟨(Z4n y189.1.cl y189.1.sq)⟩), Ad]) ?_ (hr := ZgF (H193.at 2 rfl) rfl)
 refine wv 84 Ad <| zy <| zda (Z7I) H193 fun b195 w196 H197 => ?_
 refine kk <| zy <| Z1p (Z5a y189.2) H197 4 fun w199 H200 => ?_
 refine kk <| znt <| Zl <| wv 85 (.slice oa O.length oc) <| zwN 86 (Z5a y189.2) (H200.at 4 rfl) <| zy <| Z2J 63 35 56 (.agg ⟨(Z7I)⟩) [(0, Ad)] (Z5a y189.2) H200 fun b203 w204 H205 => ?_
 have H206 := H205.ct 5 rfl (Zh 63 35 (.slice (some ⟨b203, 0, none⟩) 1 1) 1 ([y189.2].flatMap Z2F)) (by rw [(show ((Z5a y189.2) : LV) = [y189.2].flatMap Z2F by kernel_rfl)])
 refine kk <| zy <| Z0g (T := 56) (e := 63) (size := 35) (bytes := 56) rfl H206 kr 3 5 rfl rfl rfl rfl (Z07 Z2F Z8R [y189.2]) om om fun v208 w209 H210 => ?_
 have H213 := H210.ct 3 rfl (Zh 63 35 v208 ((O ++ [y189.2]).length) ((O ++ [y189.2]).flatMap Z2F)) ja
 obtain ⟨a211, c212, rfl⟩ := Z1 (H213.at 3 rfl)
 refine kk <| wv 15 (.slice a211 ((O ++ [y189.2]).length) c212) <| Zn <| Z6 ?_
 have H214 := H213.pk [0, 1, 2, 3]
 refine Z5 ?_ _ ⟨(seen ++ [y189]), t190, a211, c212, (O ++ [y189.2]), rfl, p192, (by rw [hO, List.map_append]; rfl), H214, rfl⟩ (by have h1 := hperm.length_eq; have h2 := p192.length_eq; simp only [List.length_append, List.length_cons, List.length_nil] at h1 h2; omega)
 exact zs
end Go.Proofs.YtenihpghfdcpkaaGreat
