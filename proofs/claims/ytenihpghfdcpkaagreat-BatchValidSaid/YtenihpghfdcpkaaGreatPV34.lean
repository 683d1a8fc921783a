/- WHAT IS PROVED: contracts and plain laws of TabT. Conditions: stated with each. -/
import Derived.Test.YtenihpghfdcpkaaGreatPV02
import Derived.Test.YtenihpghfdcpkaaGreatPV05
import Derived.Test.YtenihpghfdcpkaaGreatPV19
import Derived.Test.YtenihpghfdcpkaaGreatPV23
import Derived.Test.YtenihpghfdcpkaaGreatPV33
set_option maxHeartbeats 4000000
set_option maxRecDepth 100000
namespace Go.Proofs.YtenihpghfdcpkaaGreat
open Go.RowKit
abbrev ZbX (p0 : Int) (p1 : Int) (p2 : Int) (p3 : Option Addr) (p4 : Nat) (p5 : Nat) : List Value := ([i6 p0, i6 p1, i6 p2, (.slice p3 p4 p5)] : LV)
abbrev Z9y (p0 : Option Addr) (p1 : List CeR) (p2 : Nat) : Ck := Zo 76 38 (.slice p0 p1.length p2) p1.length (p1.flatMap Z1o)
abbrev Z89 (p0 : Option Addr) (p1 : Nat) (p2 : Nat) : List Value := ([(.slice p0 p1 p2)] : LV)
abbrev Za5 (p0 : Option Addr) (p1 : List Signed) (p2 : Nat) : Ck := Zo 181 2 (.slice p0 p1.length p2) p1.length (p1.flatMap Z47)
abbrev Z3v (p0 : CeR) : List Value := ([i6 p0.x.cl, i6 p0.x.seq] : LV) ++ hc p0.x.h ++ ([i6 p0.x.len, i6 p0.x.sb, i6 p0.x.sm, (.slice p0.sa p0.S.length p0.sc)] : LV)
abbrev Z1G : List Value := ([i6 0, i6 0, i6 0] : LV) ++ hc Zz ++ ([u6 0, i6 0, i6 0] : LV)
abbrev Z5y (p0 : Int) (p1 : Int) : List Value := ([i6 p0, i6 p1] : LV)
abbrev Z20 (p0 : Int) (p1 : Zj) (p2 : Int) : List Value := ([i6 p0, i6 p1.cl, i6 p1.seq] : LV) ++ hc p1.h ++ ([u6 p2, i6 0, i6 0] : LV)
abbrev Z2p (p0 : Zj) (p1 : Option Addr) (p2 : Nat) (p3 : Nat) : List Value := ([i6 p0.cl, i6 p0.seq] : LV) ++ hc p0.h ++ ([i6 p0.len, i6 p0.sb, i6 p0.sm, (.slice p1 p2 p3)] : LV)
abbrev ZcJ : List Value := ([i6 0, i6 0] : LV) ++ hc Zz ++ ([i6 0, i6 0, i6 0, (.slice none 0 0)] : LV)
abbrev Zar (p0 : Option Addr) (p1 : List UInt8) (p2 : Nat) : Ck := Zo 5 1 (.slice p0 p1.length p2) p1.length (p1.flatMap Zx)
abbrev Z3r (p0 : Int) (p1 : Zj) (p2 : Int) (p3 : Int) : List Value := ([i6 p0, i6 p1.cl, i6 p1.seq] : LV) ++ hc p1.h ++ ([u6 p2, i6 p0, i6 p3] : LV)
theorem ZbC (w : World) (t : Nat) (F Cn rp : Int) (la : Option Addr) (lc : Nat) (L : List CeR) (B : List Ck) (r : Nat) (ra : Option Addr) (rc : Nat) (Lb : List Signed) (hA : (Z0h [Z0 t 107 [i6 F, i6 Cn, i6 rp, .slice la (L).length lc], Zo 76 38 (.slice la (L).length lc) (L).length ((L).flatMap Z1o), Z0G B, Z0 r 165 [.slice ra (Lb).length rc], Zo 181 2 (.slice ra (Lb).length rc) (Lb).length ((Lb).flatMap Z47)]).ok w) (hlL : L.length ≤ 64) (hcT : ∀ c ∈ L, CeT B c) (hrp : 0 ≤ rp ∧ rp ≤ 1000000) (hnb : Lb.Nodup) (hlb : Lb.length ≤ 100000) (hF : -1099511627776 ≤ F ∧ F ≤ 1099511627776) (floor : Int) (x : CeR) (hxT : CeT B x) :
  Calls Tryz.prog 34 #[zp t, zp r, u6 floor, (.agg ⟨(([i6 x.x.cl, i6 x.x.seq] : LV) ++ hc x.x.h ++ ([i6 x.x.len, i6 x.x.sb, i6 x.x.sm, (.slice x.sa x.S.length x.sc)] : LV))⟩)] w fun e w' => ∃ (a : Zb) (er : Int) (la' : Option Addr) (lc' : Nat) (L' : List CeR) (ra' : Option Addr) (rc' : Nat) (Lb' : List Signed), e = .returned (.tuple #[.agg ⟨Z2O a⟩, i6 er]) ∧ er = Z5I F Cn floor Lb L x ∧ (er = 0 → a = ackS rp Lb x ∧ Lb' = Zy Lb (ackY rp x)) ∧ (¬ er = 0 → Lb' = Lb) ∧ (L' = L ∨ (Z0z F Cn Lb x.x x.S = true ∧ (Z0d L x.x.cl x.x.seq).isSome = false ∧ ∃ k, Zbo L x k ∧ L' = L.take k ++ x :: L.drop k)) ∧ Sat w [Z0 t 107 [i6 F, i6 Cn, i6 rp, .slice la' (L').length lc'], Zo 76 38 (.slice la' (L').length lc') (L').length ((L').flatMap Z1o), Z0G B, Z0 r 165 [.slice ra' Lb'.length rc'], Zo 181 2 (.slice ra' Lb'.length rc') Lb'.length (Lb'.flatMap Z47), ZQ w (Z0h [Z0 t 107 [i6 F, i6 Cn, i6 rp, .slice la (L).length lc], Zo 76 38 (.slice la (L).length lc) (L).length ((L).flatMap Z1o), Z0G B, Z0 r 165 [.slice ra (Lb).length rc], Zo 181 2 (.slice ra (Lb).length rc) (Lb).length ((Lb).flatMap Z47)]).fp] w' := by
 have H := Sat.start0 w
 have hxx := hxT.x
 unfold CoB at hxx
 have htl := Zap hxT
 have H := Sat.start _ hA
 have hcap := ListAt.cap (ListAt.row (enc := Z1o) (sz := 38) Z13 (by decide) (H.at 1 rfl))
 refine Zg Tryz.func34 rfl 137 rfl kn ?_
 refine zsl <| zy <| zdb (Z3v x) H fun b2 w3 H4 => ?_
 refine kk <| zy <| zda (Z1G) H4 fun b6 w7 H8 => ?_
 refine kk <| wv 9 (vi 0) <| znt <| Z9 <| Z9 <| zqs H8 ?_
 refine qv 14 (pt t 0) <| qv 15 (pt t 0) <| qv 16 (pt t 0) <| qv 17 (.agg ⟨(Z5y F Cn)⟩) ?_ (hr := fun _ H' => (zlN (vs := (Z5y F Cn)) (H'.at 0 rfl)))
 let Ab : Value := .agg ⟨(Z3v x)⟩
 refine qv 18 (pt r 0) <| qv 19 Ab ?_ (hr := fun _ H' => (zlN (vs := (Z3v x)) (H'.at 6 rfl)))
 let Ae := Z0z F Cn Lb x.x x.S
 refine Z0r (Zc rfl) (d := 20) (v := (.bool Ae)) rfl (fun _ _ => by kernel_rfl) (fun w' H' => (Z4V w' F Cn hF r ra rc Lb (H'.at 3 rfl) (H'.at 4 rfl) hnb om x.x hxx.1 x.sa x.sc x.S (Z5O (c := x) (H'.at 2 rfl) hxT.bag) (fun i hi => (hxT.S i hi).1) (Nat.le_trans hxT.len (by decide))).mono fun _ _ h => ⟨h.1, H'.keepU h.2⟩) ?_
 refine qv 21 (.bool (!Ae)) <| Z01 fun w9 H10 => ?_
 apply ztn
 refine (ZY (!Ae)).elim (fun b11 => ?_) (fun b11 => ?_)
 ·have g12 := Z7 b11
  refine Z48 _ b11 ?_
  refine zsl <| wv 22 (.agg ⟨(Z1G)⟩) <| zy <| Z1S (Z1G) H10 7 fun w15 H16 => ?_
  refine kk <| wv 9 (vi 3) <| znt <| Zk <| Z4 <| Z8l rfl (Z02 (vs := (Z1G)) rfl kr kr kn (H16.at 7 rfl) kr) (Z0S (v := (vi 3)) rfl) ?_
  exact ⟨Zl, 3, la, lc, L, ra, rc, Lb, rfl, (Eq.symm (tk3 (by have q := b11; simpa using q))), (fun h => absurd h (by decide)), (fun _ => rfl), (.inl rfl), H16.pk [0, 1, 2, 3, 4, 5]⟩
 have g18 := Z2 b11
 refine Z3L _ b11 ?_
 refine Zp <| ztn ?_
 let A5 := Z9y la L lc
 let A7 := Za5 ra Lb rc
 let A0 := ZQ w (Z0h [Z0 t 107 [i6 F, i6 Cn, i6 rp, .slice la (L).length lc], A5, Z0G B, Z0 r 165 [.slice ra (Lb).length rc], A7]).fp
 let A1 := Z0 t 107 (ZbX F Cn rp la L.length lc)
 let A2 := Z0 r 165 (Z89 ra Lb.length rc)
 let A3 := Z0 b2 76 (Z3v x)
 let A4 := Z0 b6 113 (Z1G)
 let Aa := Z5y x.x.cl x.x.seq
 refine Z1J ([10] ++ List.range' 23 13) (fun G_ W_ => ∃ (ab : Nat), G_ 10 = (pt ab 0) ∧ Sat w [A1, A5, Z0G B, A2, A7, A0, A3, A4, Z0 ab 113 (Z20 rp x.x (ZZ x.S))] W_) ?_ ?_
 ·refine Z0a H10 [A1, A5, Z0G B, A2, A7, A0, A3, A4] 15 rfl kr (fun Hx => (Hx.pk [0, 1, 2, 3, 4, 5, 6, 7])) ?_
  intro w21 H22 S23
  refine hv0 0 S23 23 (pt t 0) <| hv0 1 S23 24 (pt t 0) <| hv0 2 S23 25 (pt t 2) <| hv0 3 S23 26 (vi rp) ?_ (he := fun _ H' => (zl1 (H'.cell 0 rfl rfl)))
  refine hv0 4 S23 27 (pt b2 0) <| hv0 5 S23 28 (pt b2 0) <| hv0 6 S23 29 (.agg ⟨Aa⟩) ?_ (he := fun _ H' => (zlN (vs := Aa) (H'.at 6 rfl)))
  refine hv0 7 S23 30 (pt b2 0) <| hv0 8 S23 31 (pt b2 2) <| hv0 9 S23 32 (.agg ⟨(hc x.x.h)⟩) ?_ (he := fun _ H' => (zlN (vs := (hc x.x.h)) (H'.at 6 rfl)))
  refine hv0 10 S23 33 Ab ?_ (he := fun _ H' => (zlN (vs := (Z3v x)) (H'.at 6 rfl)))
  refine Z5X 11 13 rfl rfl kr (Zc rfl) (Zc rfl) (fun Kq kq => ?_) (fun Kq kq => ?_)
  ·refine zdq 34 (Z2T w21 x.x x.sa x.sc x.S (Z5O (c := x) (H22.at 2 rfl) hxT.bag) hxT.len) H22 ?_
   intro w25 H26
   have S28 := H26.pk [0, 1, 2, 3, 4, 5, 6, 7]
   refine kq _ _ S28 <| Z0V 12 rfl kr kr kr (fun _ _ _ h => h) S28 (Zc rfl) (d := 35) (v := (.agg ⟨(Z20 rp x.x (ZZ x.S))⟩)) rfl (fun _ H' => kr) ?_
   refine zhy 13 ?_
   refine zda (Z1G) H26 ?_
   intro b30 w31 H32
   have S33 := H32.pk [0, 1, 2, 3, 4, 5, 6, 7]
   refine kh S33 <| zhy 14 ?_
   refine Z1S (Z20 rp x.x (ZZ x.S)) H32 8 ?_
   intro w35 H36
   have S38 := H36.pk [0, 1, 2, 3, 4, 5, 6, 7]
   refine kh S38 <| zhf ?_
   have H39 := H36.pk [0, 1, 2, 3, 4, 5, 6, 7, 8]
   refine ZH ?_ ⟨b30, rfl, H39⟩
   exact zs
  refine zda (Z1G) H22 ?_
  intro b40 w41 H42
  have S43 := H42.pk [0, 1, 2, 3, 4, 5, 6, 7]
  refine kq _ _ S43 <| zhy 11 ?_
  refine zdq 34 (Z2T w41 x.x x.sa x.sc x.S (Z5O (c := x) (H42.at 2 rfl) hxT.bag) hxT.len) H42 ?_
  intro w45 H46
  have S48 := H46.pk [0, 1, 2, 3, 4, 5, 6, 7]
  refine kh S48 <| Z0V 12 rfl kr kr kr (fun _ _ _ h => h) S48 (Zc rfl) (d := 35) (v := (.agg ⟨(Z20 rp x.x (ZZ x.S))⟩)) rfl (fun _ H' => kr) ?_
  refine zhy 14 ?_
  refine Z1S (Z20 rp x.x (ZZ x.S)) H46 8 ?_
  intro w50 H51
  have S53 := H51.pk [0, 1, 2, 3, 4, 5, 6, 7]
  refine kh S53 <| zhf ?_
  have H54 := H51.pk [0, 1, 2, 3, 4, 5, 6, 7, 8]
  refine ZH ?_ ⟨b40, rfl, H54⟩
  exact zs
 rintro f55 w56 ⟨ab, v58, H57⟩
 refine Zn 10 _ v58 ?_
 refine Z9 <| zsl <| wv 37 (pt t 0) <| wv 38 (pt b2 0) <| wv 39 (pt b2 0) <| zwN 40 Aa (H57.at 6 rfl) <| zy <| zdq 41 (ZdJ w56 t F Cn rp la lc L (H57.at 0 rfl) (H57.at 1 rfl) om x.x.cl x.x.seq) H57 fun w60 H61 => ?_
 let A9 : Value := .bool ((Z0d L x.x.cl x.x.seq).isSome)
 refine kk <| wv 36 (.tuple #[(.agg ⟨(Z2p (((Z0d L x.x.cl x.x.seq).getD ce0).x) (((Z0d L x.x.cl x.x.seq).getD ce0).sa) (((Z0d L x.x.cl x.x.seq).getD ce0).S.length) (((Z0d L x.x.cl x.x.seq).getD ce0).sc))⟩), A9]) <| wv 42 (.agg ⟨(Z2p (((Z0d L x.x.cl x.x.seq).getD ce0).x) (((Z0d L x.x.cl x.x.seq).getD ce0).sa) (((Z0d L x.x.cl x.x.seq).getD ce0).S.length) (((Z0d L x.x.cl x.x.seq).getD ce0).sc))⟩) <| wv 43 A9 <| zy <| zda (ZcJ) H61 fun b64 w65 H66 => ?_
 refine kk <| zy <| Z1S (Z2p (((Z0d L x.x.cl x.x.seq).getD ce0).x) (((Z0d L x.x.cl x.x.seq).getD ce0).sa) (((Z0d L x.x.cl x.x.seq).getD ce0).S.length) (((Z0d L x.x.cl x.x.seq).getD ce0).sc)) H66 9 fun w68 H69 => ?_
 refine kk <| wv 12 A9 <| Z1a <| wv 44 A9 <| znt ?_
 refine (ZY ((Z0d L x.x.cl x.x.seq).isSome)).elim (fun b71 => ?_) (fun b71 => ?_)
 ·refine Z48 _ b71 ?_
  refine Z9 <| Z9 <| zqs H69 ?_
  refine qv 45 (pt b64 0) <| qv 46 (pt b64 2) <| qv 47 (.agg ⟨(hc ((Z0d L x.x.cl x.x.seq).getD ce0).x.h)⟩) ?_ (hr := fun _ H' => (zlN (vs := (hc ((Z0d L x.x.cl x.x.seq).getD ce0).x.h)) (H'.at 9 rfl)))
  refine qv 48 (pt b2 0) <| qv 49 (pt b2 2) <| qv 50 (.agg ⟨(hc x.x.h)⟩) ?_ (hr := fun _ H' => (zlN (vs := (hc x.x.h)) (H'.at 6 rfl)))
  refine qv 51 (.bool (!(decide ((((Z0d L x.x.cl x.x.seq).getD ce0).x.h) = x.x.h)))) ?_ (hr := fun _ H' => (Z5t (((Z0d L x.x.cl x.x.seq).getD ce0).x.h) x.x.h rfl rfl))
  refine qv 52 (.bool (!(decide ((((Z0d L x.x.cl x.x.seq).getD ce0).x.h) = x.x.h)))) ?_
  refine (ZY (!(decide ((((Z0d L x.x.cl x.x.seq).getD ce0).x.h) = x.x.h)))).elim (fun b72 => ?_) (fun b72 => ?_)
  ·have g73 := Z7 b72
   have g74 := of_decide_eq_false g73
   refine Z09 52 (.bool true) (congrArg Value.bool b72) ?_
   iterate 5 refine qn 7 52 false ?_
   refine qv 58 (.bool true) <| Z01 fun w77 H78 => ?_
   refine ztn <| Z06 rfl ?_
   refine zsl <| wv 59 (.agg ⟨(Z1G)⟩) <| zy <| Z1S (Z1G) H78 7 fun w80 H81 => ?_
   refine kk <| wv 9 (vi 5) <| znt <| Zk <| Z4 <| Z4 <| Z8l rfl (Z02 (vs := (Z1G)) rfl kr kr kn (H81.at 7 rfl) kr) (Z0S (v := (vi 5)) rfl) ?_
   exact ⟨Zl, 5, la, lc, L, ra, rc, Lb, rfl, (Eq.symm (tk5 (by have q := b11; simpa using q) b71 (by rintro ⟨q1, q2⟩; simp [q1, q2] at b72))), (fun h => absurd h (by decide)), (fun _ => rfl), (.inl rfl), H81.pk [0, 1, 2, 3, 4, 5]⟩
  have g83 := Z2 b72
  have g84 := of_decide_eq_true g83
  refine Z09 52 (.bool false) (congrArg Value.bool b72) ?_
  refine qy 7 52 false 53 (.agg ⟨(Z2p (((Z0d L x.x.cl x.x.seq).getD ce0).x) (((Z0d L x.x.cl x.x.seq).getD ce0).sa) (((Z0d L x.x.cl x.x.seq).getD ce0).S.length) (((Z0d L x.x.cl x.x.seq).getD ce0).sc))⟩) ?_ (hr := fun _ H' => (zlN (vs := (Z2p (((Z0d L x.x.cl x.x.seq).getD ce0).x) (((Z0d L x.x.cl x.x.seq).getD ce0).sa) (((Z0d L x.x.cl x.x.seq).getD ce0).S.length) (((Z0d L x.x.cl x.x.seq).getD ce0).sc))) (H'.at 9 rfl)))
  refine Z0r (Z05 7 52 false rfl kr rfl kr) (d := 54) (v := (vu (ZZ (((Z0d L x.x.cl x.x.seq).getD ce0).S)))) rfl (fun _ _ => by kernel_rfl) (fun w' H' => (Z2T w' ((Z0d L x.x.cl x.x.seq).getD ce0).x ((Z0d L x.x.cl x.x.seq).getD ce0).sa ((Z0d L x.x.cl x.x.seq).getD ce0).sc (((Z0d L x.x.cl x.x.seq).getD ce0).S) (Z5O (c := ((Z0d L x.x.cl x.x.seq).getD ce0)) (H'.at 2 rfl) (hcT _ (Z91 b71)).bag) (hcT _ (Z91 b71)).len).mono fun _ _ h => ⟨h.1, H'.keepU h.2⟩) ?_
  refine qy 7 52 false 55 Ab ?_ (hr := fun _ H' => (zlN (vs := (Z3v x)) (H'.at 6 rfl)))
  refine Z0r (Z05 7 52 false rfl kr rfl kr) (d := 56) (v := (vu (ZZ x.S))) rfl (fun _ _ => by kernel_rfl) (fun w' H' => (Z2T w' x.x x.sa x.sc x.S (Z5O (c := x) (H'.at 2 rfl) hxT.bag) hxT.len).mono fun _ _ h => ⟨h.1, H'.keepU h.2⟩) ?_
  refine qy 7 52 false 57 (.bool (!(decide ((ZZ (((Z0d L x.x.cl x.x.seq).getD ce0).S)) = (ZZ x.S))))) <| qv 58 (.bool (!(decide ((ZZ (((Z0d L x.x.cl x.x.seq).getD ce0).S)) = (ZZ x.S))))) <| Z01 fun w87 H88 => ?_
  apply ztn
  refine (ZY (!(decide ((ZZ (((Z0d L x.x.cl x.x.seq).getD ce0).S)) = (ZZ x.S))))).elim (fun b89 => ?_) (fun b89 => ?_)
  ·have g90 := Z7 b89
   have g91 := of_decide_eq_false g90
   refine Z48 _ b89 ?_
   refine zsl <| wv 59 (.agg ⟨(Z1G)⟩) <| zy <| Z1S (Z1G) H88 7 fun w95 H96 => ?_
   refine kk <| wv 9 (vi 5) <| znt <| Zk <| Z4 <| Z4 <| Z8l rfl (Z02 (vs := (Z1G)) rfl kr kr kn (H96.at 7 rfl) kr) (Z0S (v := (vi 5)) rfl) ?_
   exact ⟨Zl, 5, la, lc, L, ra, rc, Lb, rfl, (Eq.symm (tk5 (by have q := b11; simpa using q) b71 (by rintro ⟨q1, q2⟩; simp [q1, q2] at b72 b89))), (fun h => absurd h (by decide)), (fun _ => rfl), (.inl rfl), H96.pk [0, 1, 2, 3, 4, 5]⟩
  have g98 := Z2 b89
  have g99 := of_decide_eq_true g98
  refine Z3L _ b89 ?_
  refine Zp <| ztn <| Z9 <| Z0Z H88 [A1, A5, Z0G B, A0, A3, A4, Z0 ab 113 (Z20 rp x.x (ZZ x.S)), Z0 b64 76 (Z2p (((Z0d L x.x.cl x.x.seq).getD ce0).x) (((Z0d L x.x.cl x.x.seq).getD ce0).sa) (((Z0d L x.x.cl x.x.seq).getD ce0).S.length) (((Z0d L x.x.cl x.x.seq).getD ce0).sc))] [9] 10 rfl kr (fun Hx => (Hx.pk [0, 1, 2, 5, 6, 7, 8, 9])) fun w102 H103 S104 => ?_
  refine zkp 0 S104 60 (pt r 0) <| zkp 1 S104 61 (pt t 0) <| zkp 2 S104 62 (pt t 0) <| zkp 3 S104 63 (pt t 2) <| zkv 4 S104 64 (vi rp) ?_ (he := fun _ H' => (zl1 (H'.cell 0 rfl rfl)))
  refine zkv 5 S104 65 (.agg ⟨(Z20 rp x.x (ZZ x.S))⟩) ?_ (he := fun _ H' => (zlN (vs := (Z20 rp x.x (ZZ x.S))) (H'.at 6 rfl)))
  refine zky 6 ?_
  refine zdc 66 (Z4i w102 (⟨rp, x.x.cl, x.x.seq, x.x.h, ZZ x.S, 0, 0⟩ : Zb) ⟨by show rp ≤ _; omega, hxx.1.1, hxx.1.2.1, htl.1, htl.2⟩) ?_
  rintro _ w106 ⟨u107, rfl, k108, p109, q110⟩
  have H111 := H103.addU p109 k108 q110
  obtain ⟨a112, c113, rfl⟩ := Z3 (H111.at 10 rfl)
  refine ⟨_, rfl, ?_⟩
  have hal := Z81 (⟨rp, x.x.cl, x.x.seq, x.x.h, ZZ x.S, 0, 0⟩ : Zb)
  have S114 := H111.pk [0, 1, 2, 5, 6, 7, 8, 9]
  refine ke S114 <| zky 7 ?_
  refine zdc 67 (Z2F w106 r ra rc Lb (.slice a112 ((Z2L (⟨rp, x.x.cl, x.x.seq, x.x.h, ZZ x.S, 0, 0⟩ : Zb)).length) c113) (Z2L (⟨rp, x.x.cl, x.x.seq, x.x.h, ZZ x.S, 0, 0⟩ : Zb)) (H111.fn [3, 4, 10]) om hnb rp) ?_
  rintro _ w116 ⟨a118, c119, rfl, T117⟩
  have H120 := H111.tl [Z0 r 165 (Z89 a118 ((Zy Lb (⟨rp, (Z2L (⟨rp, x.x.cl, x.x.seq, x.x.h, ZZ x.S, 0, 0⟩ : Zb))⟩ : Signed)).length) c119), (Za5 a118 (Zy Lb (⟨rp, (Z2L (⟨rp, x.x.cl, x.x.seq, x.x.h, ZZ x.S, 0, 0⟩ : Zb))⟩ : Signed)) c119), (Zar a112 (Z2L (⟨rp, x.x.cl, x.x.seq, x.x.h, ZZ x.S, 0, 0⟩ : Zb)) c113)] [3, 4, 10] [0, 1, 2, 5, 6, 7, 8, 9] T117 [3, 4, 5, 0, 1, 6, 7, 8, 9, 10, 2]
  refine ⟨_, rfl, ?_⟩
  have S121 := H120.pk [0, 1, 2, 5, 6, 7, 8, 9]
  refine ke S121 <| zkp 8 S121 68 (pt ab 36) <| Z2B 9 (Sat w [A1, A5, Z0G B, A0, A3, A4, Z0 b64 76 (Z2p (((Z0d L x.x.cl x.x.seq).getD ce0).x) (((Z0d L x.x.cl x.x.seq).getD ce0).sa) (((Z0d L x.x.cl x.x.seq).getD ce0).S.length) (((Z0d L x.x.cl x.x.seq).getD ce0).sc))]) rfl kr (Zc rfl) rfl (fun Kq kq => ?_)
  refine zds (Z5y rp (Zr (Zy Lb (⟨rp, (Z2L (⟨rp, x.x.cl, x.x.seq, x.x.h, ZZ x.S, 0, 0⟩ : Zb))⟩ : Signed)) (⟨rp, (Z2L (⟨rp, x.x.cl, x.x.seq, x.x.h, ZZ x.S, 0, 0⟩ : Zb))⟩ : Signed))) (Z3r rp x.x (ZZ x.S) (Zr (Zy Lb (⟨rp, (Z2L (⟨rp, x.x.cl, x.x.seq, x.x.h, ZZ x.S, 0, 0⟩ : Zb))⟩ : Signed)) (⟨rp, (Z2L (⟨rp, x.x.cl, x.x.seq, x.x.h, ZZ x.S, 0, 0⟩ : Zb))⟩ : Signed))) H120 8 ?_
  intro w123 H124
  have S126 := H124.pk [0, 1, 2, 5, 6, 7, 9]
  refine kq _ _ S126 <| zhf <| ztn <| zsl <| zwN 69 (Z3r rp x.x (ZZ x.S) (Zr (Zy Lb (⟨rp, (Z2L (⟨rp, x.x.cl, x.x.seq, x.x.h, ZZ x.S, 0, 0⟩ : Zb))⟩ : Signed)) (⟨rp, (Z2L (⟨rp, x.x.cl, x.x.seq, x.x.h, ZZ x.S, 0, 0⟩ : Zb))⟩ : Signed))) (H124.at 8 rfl) <| zy <| Z1S (Z3r rp x.x (ZZ x.S) (Zr (Zy Lb (⟨rp, (Z2L (⟨rp, x.x.cl, x.x.seq, x.x.h, ZZ x.S, 0, 0⟩ : Zb))⟩ : Signed)) (⟨rp, (Z2L (⟨rp, x.x.cl, x.x.seq, x.x.h, ZZ x.S, 0, 0⟩ : Zb))⟩ : Signed))) H124 7 fun w128 H129 => ?_
  refine kk <| wv 9 (vi 0) <| znt <| Zk <| Z4 <| Z8l rfl (Z02 (vs := (Z3r rp x.x (ZZ x.S) (Zr (Zy Lb (⟨rp, (Z2L (⟨rp, x.x.cl, x.x.seq, x.x.h, ZZ x.S, 0, 0⟩ : Zb))⟩ : Signed)) (⟨rp, (Z2L (⟨rp, x.x.cl, x.x.seq, x.x.h, ZZ x.S, 0, 0⟩ : Zb))⟩ : Signed)))) rfl kr kr kn (H129.at 7 rfl) kr) (Z0S (v := (vi 0)) rfl) ?_
  exact ⟨(⟨rp, x.x.cl, x.x.seq, x.x.h, ZZ x.S, rp, Zr (Zy Lb (⟨rp, (Z2L (⟨rp, x.x.cl, x.x.seq, x.x.h, ZZ x.S, 0, 0⟩ : Zb))⟩ : Signed)) (⟨rp, (Z2L (⟨rp, x.x.cl, x.x.seq, x.x.h, ZZ x.S, 0, 0⟩ : Zb))⟩ : Signed)⟩ : Zb), 0, la, lc, L, a118, c119, (Zy Lb (⟨rp, (Z2L (⟨rp, x.x.cl, x.x.seq, x.x.h, ZZ x.S, 0, 0⟩ : Zb))⟩ : Signed)), rfl, (Eq.symm (tk0 (by have q := b11; simpa using q) b71 (by have q := b72; simpa using q) (by have q := b89; simpa using q))), (fun _ => ⟨rfl, rfl⟩), (fun h => absurd rfl h), (.inl rfl), H129.pk [0, 1, 2, 3, 4, 5]⟩
 refine Z3L _ b71 ?_
 refine Zp <| ztn <| Z9 <| zsl <| zwN 70 (Z3v x) (H69.at 6 rfl) <| zy <| zdq 71 (Z2T w68 x.x x.sa x.sc x.S (Z5O (c := x) (H69.at 2 rfl) hxT.bag) hxT.len) H69 fun w132 H133 => ?_
 refine kk <| wv 72 (vu floor) <| wv 73 (.bool (decide ((ZZ x.S) ≤ floor))) <| znt ?_
 refine zid (fun b135 g136 => ?_) fun b135 g142 => ?_
 ·refine zsl <| wv 74 (.agg ⟨(Z1G)⟩) <| zy <| Z1S (Z1G) H133 7 fun w139 H140 => ?_
  refine kk <| wv 9 (vi 4) <| znt <| Zk <| Z4 <| Z8l rfl (Z02 (vs := (Z1G)) rfl kr kr kn (H140.at 7 rfl) kr) (Z0S (v := (vi 4)) rfl) ?_
  exact ⟨Zl, 4, la, lc, L, ra, rc, Lb, rfl, (Eq.symm (tk4 (by have q := b11; simpa using q) b71 (of_decide_eq_true b135))), (fun h => absurd h (by decide)), (fun _ => rfl), (.inl rfl), H140.pk [0, 1, 2, 3, 4, 5]⟩
 let Ac : Value := .slice la L.length lc
 let Ai : Value := vi L.length
 refine Zp <| ztn <| Z9 <| zsl <| wv 75 (pt t 0) <| wv 76 (pt t 0) <| wv 77 (pt t 3) <| zw1 78 Ac (H133.cell 0 rfl rfl) <| wv 79 Ai <| wv 80 (.bool (decide ((L.length : Int) ≥ 64))) ?_
 apply znt
 refine zid (fun b144 g145 => ?_) fun b144 g151 => ?_
 ·refine zsl <| wv 81 (.agg ⟨(Z1G)⟩) <| zy <| Z1S (Z1G) H133 7 fun w148 H149 => ?_
  refine kk <| wv 9 (vi 7) <| znt <| Zk <| Z4 <| Z8l rfl (Z02 (vs := (Z1G)) rfl kr kr kn (H149.at 7 rfl) kr) (Z0S (v := (vi 7)) rfl) ?_
  exact ⟨Zl, 7, la, lc, L, ra, rc, Lb, rfl, (Eq.symm (tk7 (by have q := b11; simpa using q) b71 (of_decide_eq_false b135) (by have q := of_decide_eq_true b144; omega))), (fun h => absurd h (by decide)), (fun _ => rfl), (.inl rfl), H149.pk [0, 1, 2, 3, 4, 5]⟩
 refine Zp <| ztn <| zsl <| wv 82 (pt t 0) <| wv 83 (pt t 0) <| wv 84 (pt t 3) <| zw1 85 Ac (H133.cell 0 rfl rfl) <| wv 86 Ai <| wv 13 Ai <| znt ?_
 refine Z1J ([13] ++ List.range' 87 20) (fun G_ W_ => ∃ (k : Nat), G_ 13 = (vi k) ∧ (Zbo L x k) ∧ Sat w [A1, A5, Z0G B, A2, A7, A0, A3, A4, Z0 ab 113 (Z20 rp x.x (ZZ x.S)), Z0 b64 76 (Z2p (((Z0d L x.x.cl x.x.seq).getD ce0).x) (((Z0d L x.x.cl x.x.seq).getD ce0).sa) (((Z0d L x.x.cl x.x.seq).getD ce0).S.length) (((Z0d L x.x.cl x.x.seq).getD ce0).sc))] W_) ?_ ?_
 ·refine Zh <| ZB ([13] ++ List.range' 87 20) (fun F_ W_ m_ => ∃ (k : Nat), F_ 13 = (vi k) ∧ (k ≤ L.length) ∧ (∀ j, k ≤ j → ∀ y, L[j]? = some y → Z4Z x y = true) ∧ Sat w [A1, A5, Z0G B, A2, A7, A0, A3, A4, Z0 ab 113 (Z20 rp x.x (ZZ x.S)), Z0 b64 76 (Z2p (((Z0d L x.x.cl x.x.seq).getD ce0).x) (((Z0d L x.x.cl x.x.seq).getD ce0).sa) (((Z0d L x.x.cl x.x.seq).getD ce0).S.length) (((Z0d L x.x.cl x.x.seq).getD ce0).sc))] W_ ∧ m_ = k + 1) _ ⟨L.length, (show (Ai : Value) = _ by first | rfl | go_num), (Nat.le_refl _), Zd7, H133, rfl⟩ ?_
  rintro g154 w155 _ ⟨k, v157, hk, hup, H156, rfl⟩
  refine Zn 13 _ v157 ?_
  refine Z9 <| Z9 <| zqs H156 ?_
  refine qv 87 (vi k) <| qv 88 (.bool (decide ((k : Int) > 0))) <| qv 89 (.bool (decide ((k : Int) > 0))) ?_
  refine ziq 89 (fun b159 g160 => ?_) fun b159 g170 => ?_
  ·refine qy 2 89 true 90 (pt b2 0) <| qy 2 89 true 91 (pt b2 0) <| qy 2 89 true 92 (.agg ⟨Aa⟩) ?_ (hr := fun _ H' => (zlN (vs := Aa) (H'.at 6 rfl)))
   refine qy 2 89 true 93 (pt t 0) <| qy 2 89 true 94 (pt t 0) <| qy 2 89 true 95 (pt t 3) <| qy 2 89 true 96 Ac ?_ (hr := fun _ H' => (zl1 (H'.cell 0 rfl rfl)))
   let Ag : Value := vi ((k : Int) - 1)
   refine qy 2 89 true 97 (vi k) <| qy 2 89 true 98 Ag ?_ (hr := fun _ H' => (Z0A (z := (k : Int) - 1) kr (IntWalk.i64_in _ om)))
   obtain ⟨g162, c163, e164⟩ := Z1A (H156.at 1 rfl) om
   obtain ⟨x165, h166⟩ := Z2P (show ((k : Int) - 1).toNat < L.length by omega)
   let A8 : Value := .pointer (some ⟨g162, 0 + ((k : Int) - 1).toNat * 38, none⟩)
   refine qy 2 89 true 99 A8 ?_ (hr := fun _ H' => (Z1e (E := 76) kr kr kn rfl e164 rfl om om))
   let Ah := Z5y x165.x.cl x165.x.seq
   refine qy 2 89 true 100 A8 <| qy 2 89 true 101 A8 <| qy 2 89 true 102 (.agg ⟨Ah⟩) ?_ (hr := fun _ H' => (ZX (vs := Ah) rfl kr kr kn (Z40 (H'.at 1 rfl) e164 Z13 h166 0 (show 0 + ((k : Int) - 1).toNat * 38 = ((k : Int) - 1).toNat * 38 + 0 by omega) kr kr)))
   refine Z0r (Z05 2 89 true rfl kr rfl kr) (d := 103) (v := (.bool (decide (x.x.cl < x165.x.cl) || (decide (x.x.cl = x165.x.cl) && decide (x.x.seq < x165.x.seq))))) rfl (fun _ _ => by kernel_rfl) (fun w' H' => (Z8C w' x.x.cl x.x.seq x165.x.cl x165.x.seq).mono fun _ _ h => ⟨h.1, H'.keepU h.2⟩) ?_
   refine qv 104 (.bool (decide (x.x.cl < x165.x.cl) || (decide (x.x.cl = x165.x.cl) && decide (x.x.seq < x165.x.seq)))) <| Z01 fun w167 H168 => ?_
   apply ztn
   refine (ZY (decide (x.x.cl < x165.x.cl) || (decide (x.x.cl = x165.x.cl) && decide (x.x.seq < x165.x.seq)))).elim (fun b169 => ?_) (fun b169 => ?_)
   ·refine Z48 _ b169 ?_
    refine Zp <| ztn <| Zh <| ZG <| wv 105 (vi k) <| zwi 106 ((k : Int) - 1) <| wv 13 Ag <| ZL <| Z6 <| Za ?_ _ ⟨(k - 1), (show (Ag : Value) = _ by first | rfl | go_num), om, (ZeD hup (show L[k - 1]? = some x165 from (show ((k : Int) - 1).toNat = k - 1 by omega) ▸ h166) b169), H168, rfl⟩ om
    exact zs
   refine Z3L _ b169 ?_
   apply zxb
   have hpa : Zbo L x k := ⟨hk, hup, .inr ⟨x165, (show L[k - 1]? = some x165 from (show ((k : Int) - 1).toNat = k - 1 by omega) ▸ h166), b169⟩⟩
   refine ZH ?_ ⟨k, rfl, hpa, H168⟩
   exact zs
  iterate 14 refine qn 2 89 true ?_
  refine qv 104 (.bool false) <| Z01 fun w172 H173 => ?_
  refine ztn <| Z2h rfl ?_
  apply zxb
  have hpa : Zbo L x k := ⟨hk, hup, .inl om⟩
  refine ZH ?_ ⟨k, rfl, hpa, H173⟩
  exact zs
 rintro f174 w175 ⟨k, v177, hpa, H176⟩
 refine Zn 13 _ v177 ?_
 apply Z9
 have hk := hpa.le
 refine Z0Z H176 [A1, A5, Z0G B, A2, A7, A0, A3, A4, Z0 ab 113 (Z20 rp x.x (ZZ x.S)), Z0 b64 76 (Z2p (((Z0d L x.x.cl x.x.seq).getD ce0).x) (((Z0d L x.x.cl x.x.seq).getD ce0).sa) (((Z0d L x.x.cl x.x.seq).getD ce0).S.length) (((Z0d L x.x.cl x.x.seq).getD ce0).sc))] [20] 21 rfl kr (fun Hx => (Hx.pk [0, 1, 2, 3, 4, 5, 6, 7, 8, 9])) ?_
 intro w178 H179 S180
 refine zkp 0 S180 107 (pt t 0) <| zkp 1 S180 108 (pt t 0) <| zkp 2 S180 109 (pt t 0) <| zkp 3 S180 110 (pt t 3) <| zkv 4 S180 111 Ac ?_ (he := fun _ H' => (zl1 (H'.cell 0 rfl rfl)))
 refine zkp 5 S180 112 (vi k) <| zkp 6 S180 113 (vi k) <| zkp 7 S180 114 (.slice la k k) ?_ (he := fun _ => (ZcY (E := 76) (q := k) kr kr rfl rfl rfl rfl rfl om))
 refine zkv 8 S180 115 Ab ?_ (he := fun _ H' => (zlN (vs := (Z3v x)) (H'.at 6 rfl)))
 refine zkp 10 S180 117 (pt t 0) <| zkp 11 S180 118 (pt t 0) <| zkp 12 S180 119 (pt t 3) <| zkv 13 S180 120 Ac ?_ (he := fun _ H' => (zl1 (H'.cell 0 rfl rfl)))
 refine zkp 14 S180 121 (vi k) <| zkp 15 S180 122 (.slice (if lc = k then la else la.map (·.add (k * 38))) (L.length - k) (lc - k)) ?_ (he := fun _ => (Z35 (E := 76) (q := k) kr kr rfl rfl rfl om))
 refine zky 9 ?_
 refine Z2z 76 38 96 (.agg ⟨(ZcJ)⟩) [(0, Ab)] (Z3v x) H179 ?_
 intro b182 w183 H184
 have H185 := H184.ct 10 rfl (Zo 76 38 (.slice (some ⟨b182, 0, none⟩) 1 1) 1 ([x].flatMap Z1o)) (by rw [(show ((Z3v x) : LV) = [x].flatMap Z1o by kernel_rfl)])
 have S186 := H185.pk [0, 1, 2, 3, 4, 5, 6, 7, 8, 9]
 refine ke S186 <| zky 16 ?_
 refine Z4q (T := 67) (e := 76) (size := 38) (bytes := 96) rfl H185 kr Z13 Z6N 10 rfl (ListAt.dropG (k := k) (ListAt.row (enc := Z1o) (sz := 38) Z13 (by decide) (H185.at 1 rfl)) om) rfl rfl (by first | omega | (simp only [List.length_append, List.length_drop, List.length_cons, List.length_nil]; omega)) (by first | omega | (simp only [List.length_append, List.length_drop, List.length_cons, List.length_nil]; omega)) ?_
 intro v188 w189 (H191 : Sat w [A1, A5, Z0G B, A2, A7, A0, A3, A4, Z0 ab 113 (Z20 rp x.x (ZZ x.S)), Z0 b64 76 (Z2p (((Z0d L x.x.cl x.x.seq).getD ce0).x) (((Z0d L x.x.cl x.x.seq).getD ce0).sa) (((Z0d L x.x.cl x.x.seq).getD ce0).S.length) (((Z0d L x.x.cl x.x.seq).getD ce0).sc)), Zo 76 38 v188 (([x]).length + (L.drop k).length) (([x]).flatMap Z1o ++ (L.drop k).flatMap Z1o)] w189)
 have H190 : Sat w [A1, A5, Z0G B, A2, A7, A0, A3, A4, Z0 ab 113 (Z20 rp x.x (ZZ x.S)), Z0 b64 76 (Z2p (((Z0d L x.x.cl x.x.seq).getD ce0).x) (((Z0d L x.x.cl x.x.seq).getD ce0).sa) (((Z0d L x.x.cl x.x.seq).getD ce0).S.length) (((Z0d L x.x.cl x.x.seq).getD ce0).sc)), Zo 76 38 v188 ((([x]) ++ (L.drop k)).length) ((([x]) ++ (L.drop k)).flatMap Z1o)] w189 := H191.cast (by simp only [List.length_append, List.flatMap_append])
 obtain ⟨a192, c193, rfl⟩ := Z3 (H190.at 10 rfl)
 have S194 := H190.pk [0, 1, 2, 3, 4, 5, 6, 7, 8, 9]
 refine ke S194 <| zky 17 ?_
 refine Z8O (T := 67) (e := 76) (size := 38) (bytes := 96) rfl H190 kr Z13 Z6N (ListAt.take3 (ListAt.row (enc := Z1o) (sz := 38) Z13 (by decide) (H190.at 1 rfl)) om (by decide) Z13) (by rw [List.length_take]; omega) (ListAt.row (enc := Z1o) (sz := 38) Z13 (by decide) (H190.at 10 rfl)) (by simp only [List.length_append, List.length_cons, List.length_nil, List.length_drop, List.length_take]; omega) rfl rfl (by simp only [List.length_append, List.length_cons, List.length_nil, List.length_drop, List.length_take]; omega) (by simp only [List.length_append, List.length_cons, List.length_nil, List.length_drop, List.length_take]; omega) ?_
 intro v196 w197 H198
 obtain ⟨a199, c200, rfl⟩ := Z3 (H198.at 11 rfl)
 have S201 := H198.pk [0, 1, 2, 3, 4, 5, 6, 7, 8, 9]
 refine ke S201 <| zkp 18 S201 125 (pt t 0) <| zkp 19 S201 126 (pt t 3) <| Z2B 20 (Sat w [A5, Z0G B, A2, A7, A0, A3, A4, Z0 ab 113 (Z20 rp x.x (ZZ x.S)), Z0 b64 76 (Z2p (((Z0d L x.x.cl x.x.seq).getD ce0).x) (((Z0d L x.x.cl x.x.seq).getD ce0).sa) (((Z0d L x.x.cl x.x.seq).getD ce0).S.length) (((Z0d L x.x.cl x.x.seq).getD ce0).sc))]) rfl kr (Zc rfl) rfl (fun Kq kq => ?_)
 let A6 := ZbX F Cn rp a199 (((L.take k) ++ (([x]) ++ (L.drop k))).length) c200
 refine zds (Z89 a199 (((L.take k) ++ (([x]) ++ (L.drop k))).length) c200) A6 H198 0 ?_
 intro w203 H204
 have S206 := H204.pk [1, 2, 3, 4, 5, 6, 7, 8, 9]
 let Ad := Z9y a199 ((L.take k) ++ (([x]) ++ (L.drop k))) c200
 let Af := Z9y a192 (([x]) ++ (L.drop k)) c193
 refine kq _ _ S206 <| zhf <| ztn <| Z9 <| Z0Z H204 [Z0 t 107 A6, A5, Z0G B, A0, A3, A4, Z0 ab 113 (Z20 rp x.x (ZZ x.S)), Z0 b64 76 (Z2p (((Z0d L x.x.cl x.x.seq).getD ce0).x) (((Z0d L x.x.cl x.x.seq).getD ce0).sa) (((Z0d L x.x.cl x.x.seq).getD ce0).S.length) (((Z0d L x.x.cl x.x.seq).getD ce0).sc)), Af, Ad] [9] 10 rfl kr (fun Hx => (Hx.pk [0, 1, 2, 5, 6, 7, 8, 9, 10, 11])) fun w207 H208 S209 => ?_
 refine zkp 0 S209 127 (pt r 0) <| zkp 1 S209 128 (pt t 0) <| zkp 2 S209 129 (pt t 0) <| zkp 3 S209 130 (pt t 2) <| zkv 4 S209 131 (vi rp) ?_ (he := fun _ H' => (zl1 (H'.cell 0 rfl rfl)))
 refine zkv 5 S209 132 (.agg ⟨(Z20 rp x.x (ZZ x.S))⟩) ?_ (he := fun _ H' => (zlN (vs := (Z20 rp x.x (ZZ x.S))) (H'.at 6 rfl)))
 refine zky 6 ?_
 refine zdc 133 (Z4i w207 (⟨rp, x.x.cl, x.x.seq, x.x.h, ZZ x.S, 0, 0⟩ : Zb) ⟨by show rp ≤ _; omega, hxx.1.1, hxx.1.2.1, htl.1, htl.2⟩) ?_
 rintro _ w211 ⟨u212, rfl, k213, p214, q215⟩
 have H216 := H208.addU p214 k213 q215
 obtain ⟨a217, c218, rfl⟩ := Z3 (H216.at 12 rfl)
 refine ⟨_, rfl, ?_⟩
 have hal := Z81 (⟨rp, x.x.cl, x.x.seq, x.x.h, ZZ x.S, 0, 0⟩ : Zb)
 have S219 := H216.pk [0, 1, 2, 5, 6, 7, 8, 9, 10, 11]
 refine ke S219 <| zky 7 ?_
 refine zdc 134 (Z2F w211 r ra rc Lb (.slice a217 ((Z2L (⟨rp, x.x.cl, x.x.seq, x.x.h, ZZ x.S, 0, 0⟩ : Zb)).length) c218) (Z2L (⟨rp, x.x.cl, x.x.seq, x.x.h, ZZ x.S, 0, 0⟩ : Zb)) (H216.fn [3, 4, 12]) om hnb rp) ?_
 rintro _ w221 ⟨a223, c224, rfl, T222⟩
 have H225 := H216.tl [Z0 r 165 (Z89 a223 ((Zy Lb (⟨rp, (Z2L (⟨rp, x.x.cl, x.x.seq, x.x.h, ZZ x.S, 0, 0⟩ : Zb))⟩ : Signed)).length) c224), (Za5 a223 (Zy Lb (⟨rp, (Z2L (⟨rp, x.x.cl, x.x.seq, x.x.h, ZZ x.S, 0, 0⟩ : Zb))⟩ : Signed)) c224), (Zar a217 (Z2L (⟨rp, x.x.cl, x.x.seq, x.x.h, ZZ x.S, 0, 0⟩ : Zb)) c218)] [3, 4, 12] [0, 1, 2, 5, 6, 7, 8, 9, 10, 11] T222 [3, 4, 5, 0, 1, 6, 7, 8, 9, 10, 11, 12, 2]
 refine ⟨_, rfl, ?_⟩
 have S226 := H225.pk [0, 1, 2, 5, 6, 7, 8, 9, 10, 11]
 refine ke S226 <| zkp 8 S226 135 (pt ab 36) <| Z2B 9 (Sat w [Z0 t 107 A6, A5, Z0G B, A0, A3, A4, Z0 b64 76 (Z2p (((Z0d L x.x.cl x.x.seq).getD ce0).x) (((Z0d L x.x.cl x.x.seq).getD ce0).sa) (((Z0d L x.x.cl x.x.seq).getD ce0).S.length) (((Z0d L x.x.cl x.x.seq).getD ce0).sc)), Af, Ad]) rfl kr (Zc rfl) rfl (fun Kq kq => ?_)
 refine zds (Z5y rp (Zr (Zy Lb (⟨rp, (Z2L (⟨rp, x.x.cl, x.x.seq, x.x.h, ZZ x.S, 0, 0⟩ : Zb))⟩ : Signed)) (⟨rp, (Z2L (⟨rp, x.x.cl, x.x.seq, x.x.h, ZZ x.S, 0, 0⟩ : Zb))⟩ : Signed))) (Z3r rp x.x (ZZ x.S) (Zr (Zy Lb (⟨rp, (Z2L (⟨rp, x.x.cl, x.x.seq, x.x.h, ZZ x.S, 0, 0⟩ : Zb))⟩ : Signed)) (⟨rp, (Z2L (⟨rp, x.x.cl, x.x.seq, x.x.h, ZZ x.S, 0, 0⟩ : Zb))⟩ : Signed))) H225 8 ?_
 intro w228 H229
 have S231 := H229.pk [0, 1, 2, 5, 6, 7, 9, 10, 11]
 refine kq _ _ S231 <| zhf <| ztn <| zsl <| zwN 136 (Z3r rp x.x (ZZ x.S) (Zr (Zy Lb (⟨rp, (Z2L (⟨rp, x.x.cl, x.x.seq, x.x.h, ZZ x.S, 0, 0⟩ : Zb))⟩ : Signed)) (⟨rp, (Z2L (⟨rp, x.x.cl, x.x.seq, x.x.h, ZZ x.S, 0, 0⟩ : Zb))⟩ : Signed))) (H229.at 8 rfl) <| zy <| Z1S (Z3r rp x.x (ZZ x.S) (Zr (Zy Lb (⟨rp, (Z2L (⟨rp, x.x.cl, x.x.seq, x.x.h, ZZ x.S, 0, 0⟩ : Zb))⟩ : Signed)) (⟨rp, (Z2L (⟨rp, x.x.cl, x.x.seq, x.x.h, ZZ x.S, 0, 0⟩ : Zb))⟩ : Signed))) H229 7 fun w233 H234 => ?_
 refine kk <| wv 9 (vi 0) <| znt <| Zk <| Z8l rfl (Z02 (vs := (Z3r rp x.x (ZZ x.S) (Zr (Zy Lb (⟨rp, (Z2L (⟨rp, x.x.cl, x.x.seq, x.x.h, ZZ x.S, 0, 0⟩ : Zb))⟩ : Signed)) (⟨rp, (Z2L (⟨rp, x.x.cl, x.x.seq, x.x.h, ZZ x.S, 0, 0⟩ : Zb))⟩ : Signed)))) rfl kr kr kn (H234.at 7 rfl) kr) (Z0S (v := (vi 0)) rfl) ?_
 exact ⟨(⟨rp, x.x.cl, x.x.seq, x.x.h, ZZ x.S, rp, Zr (Zy Lb (⟨rp, (Z2L (⟨rp, x.x.cl, x.x.seq, x.x.h, ZZ x.S, 0, 0⟩ : Zb))⟩ : Signed)) (⟨rp, (Z2L (⟨rp, x.x.cl, x.x.seq, x.x.h, ZZ x.S, 0, 0⟩ : Zb))⟩ : Signed)⟩ : Zb), 0, a199, c200, ((L.take k) ++ (([x]) ++ (L.drop k))), a223, c224, (Zy Lb (⟨rp, (Z2L (⟨rp, x.x.cl, x.x.seq, x.x.h, ZZ x.S, 0, 0⟩ : Zb))⟩ : Signed)), rfl, (Eq.symm (tkn (by have q := b11; simpa using q) b71 (of_decide_eq_false b135) (by have q := of_decide_eq_false b144; omega))), (fun _ => ⟨rfl, rfl⟩), (fun h => absurd rfl h), (.inr ⟨(by have q := b11; simpa using q), b71, k, hpa, by simp⟩), H234.pk [0, 11, 2, 3, 4, 5]⟩
end Go.Proofs.YtenihpghfdcpkaaGreat
