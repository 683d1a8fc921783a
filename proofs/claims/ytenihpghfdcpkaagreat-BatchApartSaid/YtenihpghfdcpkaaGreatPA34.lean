/- WHAT IS PROVED: contracts and plain laws of TabT. Conditions: stated with each. -/
import Derived.Test.YtenihpghfdcpkaaGreatPA05
import Derived.Test.YtenihpghfdcpkaaGreatPA21
import Derived.Test.YtenihpghfdcpkaaGreatPA31
import Derived.Test.YtenihpghfdcpkaaGreatPA32
import Derived.Test.YtenihpghfdcpkaaGreatPA33
set_option maxHeartbeats 4000000
set_option maxRecDepth 100000
namespace Go.Proofs.YtenihpghfdcpkaaGreat
open Go.RowKit
abbrev Z31 (p0 : Int) (p1 : Int) (p2 : Int) (p3 : Option Addr) (p4 : Nat) (p5 : Nat) : List Value := ([(.int .i64 p0), (.int .i64 p1), (.int .i64 p2), (.slice p3 p4 p5)] : List Value)
abbrev Z0r (p0 : Option Addr) (p1 : List CeR) (p2 : Nat) : Ck := Zc 76 38 (.slice p0 p1.length p2) p1.length (p1.flatMap Z0V)
abbrev Z3m (p0 : Option Addr) (p1 : Nat) (p2 : Nat) : List Value := ([(.slice p0 p1 p2)] : List Value)
abbrev Z15 (p0 : Option Addr) (p1 : List Signed) (p2 : Nat) : Ck := Zc 181 2 (.slice p0 p1.length p2) p1.length (p1.flatMap Z4W)
abbrev Z0J (p0 : CeR) : List Value := ([(.int .i64 p0.x.cl), (.int .i64 p0.x.seq)] : List Value) ++ hc p0.x.h ++ ([(.int .i64 p0.x.len), (.int .i64 p0.x.sb), (.int .i64 p0.x.sm), (.slice p0.sa p0.S.length p0.sc)] : List Value)
abbrev Z0o : List Value := ([(.int .i64 (0)), (.int .i64 (0)), (.int .i64 (0))] : List Value) ++ hc Zn ++ ([(.int .u64 (0)), (.int .i64 (0)), (.int .i64 (0))] : List Value)
abbrev Z3r (p0 : Int) (p1 : Int) : List Value := ([(.int .i64 p0), (.int .i64 p1)] : List Value)
abbrev Z1I (p0 : Int) (p1 : Z9) (p2 : Int) : List Value := ([(.int .i64 p0), (.int .i64 p1.cl), (.int .i64 p1.seq)] : List Value) ++ hc p1.h ++ ([(.int .u64 p2), (.int .i64 (0)), (.int .i64 (0))] : List Value)
abbrev Z2e (p0 : Z9) (p1 : Option Addr) (p2 : Nat) (p3 : Nat) : List Value := ([(.int .i64 p0.cl), (.int .i64 p0.seq)] : List Value) ++ hc p0.h ++ ([(.int .i64 p0.len), (.int .i64 p0.sb), (.int .i64 p0.sm), (.slice p1 p2 p3)] : List Value)
abbrev Zdp : List Value := ([(.int .i64 (0)), (.int .i64 (0))] : List Value) ++ hc Zn ++ ([(.int .i64 (0)), (.int .i64 (0)), (.int .i64 (0)), (.slice none 0 0)] : List Value)
abbrev ZaJ (p0 : Option Addr) (p1 : List UInt8) (p2 : Nat) : Ck := Zc 5 1 (.slice p0 p1.length p2) p1.length (p1.flatMap Zy)
abbrev Z3F (p0 : Int) (p1 : Z9) (p2 : Int) (p3 : Int) : List Value := ([(.int .i64 p0), (.int .i64 p1.cl), (.int .i64 p1.seq)] : List Value) ++ hc p1.h ++ ([(.int .u64 p2), (.int .i64 p0), (.int .i64 p3)] : List Value)
theorem ZdD (w : World) (t : Nat) (F Cn rp : Int) (la : Option Addr) (lc : Nat) (L : List CeR) (B : List Ck) (r : Nat) (ra : Option Addr) (rc : Nat) (Lb : List Signed) (hA : (ZR [Z0 t 107 [.int .i64 F, .int .i64 Cn, .int .i64 rp, .slice la (L).length lc], Zc 76 38 (.slice la (L).length lc) (L).length ((L).flatMap Z0V), Z0b B, Z0 r 165 [.slice ra (Lb).length rc], Zc 181 2 (.slice ra (Lb).length rc) (Lb).length ((Lb).flatMap Z4W)]).ok w) (hlL : L.length ≤ 64) (hcT : ∀ c ∈ L, CeT B c) (hrp : 0 ≤ rp ∧ rp ≤ 1000000) (hnb : Lb.Nodup) (hlb : Lb.length ≤ 100000) (hF : -1099511627776 ≤ F ∧ F ≤ 1099511627776) (floor : Int) (x : CeR) (hxT : CeT B x) :
  Calls Tryz.prog 34 #[(.pointer (some ⟨t, 0, none⟩)), (.pointer (some ⟨r, 0, none⟩)), (.int .u64 (floor)), (.agg ⟨(([(.int .i64 (x.x.cl)), (.int .i64 (x.x.seq))] : List Value) ++ hc x.x.h ++ ([(.int .i64 (x.x.len)), (.int .i64 (x.x.sb)), (.int .i64 (x.x.sm)), (.slice x.sa x.S.length x.sc)] : List Value))⟩)] w fun e w' => ∃ (a : Z4) (er : Int) (la' : Option Addr) (lc' : Nat) (L' : List CeR) (ra' : Option Addr) (rc' : Nat) (Lb' : List Signed), e = .returned (.tuple #[.agg ⟨Z1U a⟩, .int .i64 er]) ∧ er = Z5T F Cn floor Lb L x ∧ (er = 0 → a = ackS rp Lb x ∧ Lb' = Zg Lb (ackY rp x)) ∧ (¬ er = 0 → Lb' = Lb) ∧ (L' = L ∨ (Z14 F Cn Lb x.x x.S = true ∧ (ZU L x.x.cl x.x.seq).isSome = false ∧ ∃ k, Zdo L x k ∧ L' = L.take k ++ x :: L.drop k)) ∧ Sat w [Z0 t 107 [.int .i64 F, .int .i64 Cn, .int .i64 rp, .slice la' (L').length lc'], Zc 76 38 (.slice la' (L').length lc') (L').length ((L').flatMap Z0V), Z0b B, Z0 r 165 [.slice ra' Lb'.length rc'], Zc 181 2 (.slice ra' Lb'.length rc') Lb'.length (Lb'.flatMap Z4W), Z3 w (ZR [Z0 t 107 [.int .i64 F, .int .i64 Cn, .int .i64 rp, .slice la (L).length lc], Zc 76 38 (.slice la (L).length lc) (L).length ((L).flatMap Z0V), Z0b B, Z0 r 165 [.slice ra (Lb).length rc], Zc 181 2 (.slice ra (Lb).length rc) (Lb).length ((Lb).flatMap Z4W)]).fp] w' := by
 have H := Sat.start0 w
 have hxx := hxT.x
 unfold CoB at hxx
 have htl := ZaS hxT
 have H := Sat.start _ hA
 have hcap := ListAt.cap (ListAt.row (enc := Z0V) (sz := 38) Z0N (by decide) (H.at 1 rfl))
 refine Z8 Tryz.func34 rfl 137 rfl (Nat.le_of_ble_eq_true rfl) ?_
 refine zsl <| zwd fun Kq kq => zdb (Z0J x) H fun b2 w3 H4 => ?_
 refine kq _ _ <| zwd fun Kq kq => zda (Z0o) H4 fun b6 w7 H8 => ?_
 refine kq _ _ <| wv 9 (.int .i64 (0)) <| znt <| Z5 <| Z5 <| zqs H8 ?_
 refine qv 14 (pt t 0) <| qv 15 (pt t 0) <| qv 16 (pt t 0) <| qv 17 (.agg ⟨(Z3r F Cn)⟩) ?_ (hr := fun _ H' => (zlN (vs := (Z3r F Cn)) (H'.at 0 rfl)))
 refine qv 18 (pt r 0) <| qv 19 (.agg ⟨(Z0J x)⟩) ?_ (hr := fun _ H' => (zlN (vs := (Z0J x)) (H'.at 6 rfl)))
 refine Z2h (Zb rfl) (d := 20) (v := (.bool (Z14 F Cn Lb x.x x.S))) rfl (fun _ _ => by kernel_rfl) (fun w' H' => (Zaf w' F Cn hF r ra rc Lb (H'.at 3 rfl) (H'.at 4 rfl) hnb (by omega) x.x hxx.1 x.sa x.sc x.S (Z69 (c := x) (H'.at 2 rfl) hxT.bag) (fun i hi => (hxT.S i hi).1) (Nat.le_trans hxT.len (by decide))).mono fun _ _ h => ⟨h.1, H'.keepU h.2⟩) ?_
 refine qv 21 (.bool (!(Z14 F Cn Lb x.x x.S))) <| Z17 fun w9 H10 => ?_
 apply ztn
 refine (ZJ (!(Z14 F Cn Lb x.x x.S))).elim (fun b11 => ?_) (fun b11 => ?_)
 ·have g12 := ZS b11
  refine Z33 _ b11 ?_
  refine zsl <| wv 22 (.agg ⟨(Z0o)⟩) <| zwd fun Kq kq => Z1z (Z0o) H10 7 fun w15 H16 => ?_
  refine kq _ _ <| wv 9 (.int .i64 (3)) <| znt <| Zq <| ZP <| Z9t rfl (ZL (vs := (Z0o)) rfl (by kernel_rfl) (by kernel_rfl) (Nat.le_of_ble_eq_true (by kernel_rfl)) (H16.at 7 rfl) (by kernel_rfl)) (Z10 (v := (.int .i64 (3))) rfl) ?_
  exact ⟨Zf, 3, la, lc, L, ra, rc, Lb, rfl, (Eq.symm (tk3 (by have q := b11; simpa using q))), (fun h => absurd h (by decide)), (fun _ => rfl), (.inl rfl), H16.pk [0, 1, 2, 3, 4, 5]⟩
 have g18 := Zr b11
 refine Z2X _ b11 ?_
 refine Zt <| ztn ?_
 refine Z28 ([10] ++ List.range' 23 13) (fun G_ W_ => ∃ (ab : Nat), G_ 10 = (pt ab 0) ∧ Sat w [Z0 t 107 (Z31 F Cn rp la L.length lc), (Z0r la L lc), Z0b B, Z0 r 165 (Z3m ra Lb.length rc), (Z15 ra Lb rc), Z3 w (ZR [Z0 t 107 [.int .i64 F, .int .i64 Cn, .int .i64 rp, .slice la (L).length lc], (Z0r la L lc), Z0b B, Z0 r 165 [.slice ra (Lb).length rc], (Z15 ra Lb rc)]).fp, Z0 b2 76 (Z0J x), Z0 b6 113 (Z0o), Z0 ab 113 (Z1I rp x.x (Zj x.S))] W_) ?_ ?_
 ·refine Z08 H10 [Z0 t 107 (Z31 F Cn rp la L.length lc), (Z0r la L lc), Z0b B, Z0 r 165 (Z3m ra Lb.length rc), (Z15 ra Lb rc), Z3 w (ZR [Z0 t 107 [.int .i64 F, .int .i64 Cn, .int .i64 rp, .slice la (L).length lc], (Z0r la L lc), Z0b B, Z0 r 165 [.slice ra (Lb).length rc], (Z15 ra Lb rc)]).fp, Z0 b2 76 (Z0J x), Z0 b6 113 (Z0o)] 15 rfl (by kernel_rfl) (fun Hx => (Hx.pk [0, 1, 2, 3, 4, 5, 6, 7])) ?_
  intro w21 H22 S23
  refine hv0 0 S23 23 (pt t 0) <| hv0 1 S23 24 (pt t 0) <| hv0 2 S23 25 (pt t 2) <| hv0 3 S23 26 (.int .i64 (rp)) ?_ (he := fun _ H' => (zl1 (H'.cell 0 rfl rfl)))
  refine hv0 4 S23 27 (pt b2 0) <| hv0 5 S23 28 (pt b2 0) <| hv0 6 S23 29 (.agg ⟨(Z3r x.x.cl x.x.seq)⟩) ?_ (he := fun _ H' => (zlN (vs := (Z3r x.x.cl x.x.seq)) (H'.at 6 rfl)))
  refine hv0 7 S23 30 (pt b2 0) <| hv0 8 S23 31 (pt b2 2) <| hv0 9 S23 32 (.agg ⟨(hc x.x.h)⟩) ?_ (he := fun _ H' => (zlN (vs := (hc x.x.h)) (H'.at 6 rfl)))
  refine hv0 10 S23 33 (.agg ⟨(Z0J x)⟩) ?_ (he := fun _ H' => (zlN (vs := (Z0J x)) (H'.at 6 rfl)))
  refine Z6A 11 13 rfl rfl (by kernel_rfl) (Zb rfl) (Zb rfl) (fun Kq kq => ?_) (fun Kq kq => ?_)
  ·refine zdq 34 (Z3Q w21 x.x x.sa x.sc x.S (Z69 (c := x) (H22.at 2 rfl) hxT.bag) hxT.len) H22 ?_
   intro w25 H26
   have S28 := H26.pk [0, 1, 2, 3, 4, 5, 6, 7]
   refine kq _ _ S28 <| Z3u 12 rfl (by kernel_rfl) (by kernel_rfl) (by kernel_rfl) (fun _ _ _ h => h) S28 (Zb rfl) (d := 35) (v := (.agg ⟨(Z1I rp x.x (Zj x.S))⟩)) rfl (fun _ H' => (by kernel_rfl)) ?_
   refine Z4q 13 fun Kq kq => ?_
   refine zda (Z0o) H26 ?_
   intro b30 w31 H32
   have S33 := H32.pk [0, 1, 2, 3, 4, 5, 6, 7]
   refine kq _ _ S33 <| Z4q 14 fun Kq kq => ?_
   refine Z1z (Z1I rp x.x (Zj x.S)) H32 8 ?_
   intro w35 H36
   have S38 := H36.pk [0, 1, 2, 3, 4, 5, 6, 7]
   refine kq _ _ S38 <| zhf ?_
   have H39 := H36.pk [0, 1, 2, 3, 4, 5, 6, 7, 8]
   refine Z01 ?_ ⟨b30, rfl, H39⟩
   exact zs
  refine zda (Z0o) H22 ?_
  intro b40 w41 H42
  have S43 := H42.pk [0, 1, 2, 3, 4, 5, 6, 7]
  refine kq _ _ S43 <| Z4q 11 fun Kq kq => ?_
  refine zdq 34 (Z3Q w41 x.x x.sa x.sc x.S (Z69 (c := x) (H42.at 2 rfl) hxT.bag) hxT.len) H42 ?_
  intro w45 H46
  have S48 := H46.pk [0, 1, 2, 3, 4, 5, 6, 7]
  refine kq _ _ S48 <| Z3u 12 rfl (by kernel_rfl) (by kernel_rfl) (by kernel_rfl) (fun _ _ _ h => h) S48 (Zb rfl) (d := 35) (v := (.agg ⟨(Z1I rp x.x (Zj x.S))⟩)) rfl (fun _ H' => (by kernel_rfl)) ?_
  refine Z4q 14 fun Kq kq => ?_
  refine Z1z (Z1I rp x.x (Zj x.S)) H46 8 ?_
  intro w50 H51
  have S53 := H51.pk [0, 1, 2, 3, 4, 5, 6, 7]
  refine kq _ _ S53 <| zhf ?_
  have H54 := H51.pk [0, 1, 2, 3, 4, 5, 6, 7, 8]
  refine Z01 ?_ ⟨b40, rfl, H54⟩
  exact zs
 rintro f55 w56 ⟨ab, v58, H57⟩
 refine Zd 10 _ v58 ?_
 refine Z5 <| zsl <| wv 37 (pt t 0) <| wv 38 (pt b2 0) <| wv 39 (pt b2 0) <| zwN 40 (Z3r x.x.cl x.x.seq) (H57.at 6 rfl) <| zwd fun Kq kq => zdq 41 (ZeC w56 t F Cn rp la lc L (H57.at 0 rfl) (H57.at 1 rfl) (by omega) x.x.cl x.x.seq) H57 fun w60 H61 => ?_
 refine kq _ _ <| wv 36 (.tuple #[(.agg ⟨(Z2e (((ZU L x.x.cl x.x.seq).getD ce0).x) (((ZU L x.x.cl x.x.seq).getD ce0).sa) (((ZU L x.x.cl x.x.seq).getD ce0).S.length) (((ZU L x.x.cl x.x.seq).getD ce0).sc))⟩), (.bool ((ZU L x.x.cl x.x.seq).isSome))]) <| wv 42 (.agg ⟨(Z2e (((ZU L x.x.cl x.x.seq).getD ce0).x) (((ZU L x.x.cl x.x.seq).getD ce0).sa) (((ZU L x.x.cl x.x.seq).getD ce0).S.length) (((ZU L x.x.cl x.x.seq).getD ce0).sc))⟩) <| wv 43 (.bool ((ZU L x.x.cl x.x.seq).isSome)) <| zwd fun Kq kq => zda (Zdp) H61 fun b64 w65 H66 => ?_
 refine kq _ _ <| zwd fun Kq kq => Z1z (Z2e (((ZU L x.x.cl x.x.seq).getD ce0).x) (((ZU L x.x.cl x.x.seq).getD ce0).sa) (((ZU L x.x.cl x.x.seq).getD ce0).S.length) (((ZU L x.x.cl x.x.seq).getD ce0).sc)) H66 9 fun w68 H69 => ?_
 refine kq _ _ <| wv 12 (.bool ((ZU L x.x.cl x.x.seq).isSome)) <| Z0y <| wv 44 (.bool ((ZU L x.x.cl x.x.seq).isSome)) <| znt ?_
 refine (ZJ ((ZU L x.x.cl x.x.seq).isSome)).elim (fun b71 => ?_) (fun b71 => ?_)
 ·refine Z33 _ b71 ?_
  refine Z5 <| Z5 <| zqs H69 ?_
  refine qv 45 (pt b64 0) <| qv 46 (pt b64 2) <| qv 47 (.agg ⟨(hc ((ZU L x.x.cl x.x.seq).getD ce0).x.h)⟩) ?_ (hr := fun _ H' => (zlN (vs := (hc ((ZU L x.x.cl x.x.seq).getD ce0).x.h)) (H'.at 9 rfl)))
  refine qv 48 (pt b2 0) <| qv 49 (pt b2 2) <| qv 50 (.agg ⟨(hc x.x.h)⟩) ?_ (hr := fun _ H' => (zlN (vs := (hc x.x.h)) (H'.at 6 rfl)))
  refine qv 51 (.bool (!(decide ((((ZU L x.x.cl x.x.seq).getD ce0).x.h) = x.x.h)))) ?_ (hr := fun _ H' => (Z8k (((ZU L x.x.cl x.x.seq).getD ce0).x.h) x.x.h rfl rfl))
  refine qv 52 (.bool (!(decide ((((ZU L x.x.cl x.x.seq).getD ce0).x.h) = x.x.h)))) ?_
  refine (ZJ (!(decide ((((ZU L x.x.cl x.x.seq).getD ce0).x.h) = x.x.h)))).elim (fun b72 => ?_) (fun b72 => ?_)
  ·have g73 := ZS b72
   have g74 := of_decide_eq_false g73
   refine Z21 52 (.bool true) (congrArg Value.bool b72) ?_
   iterate 5 refine qn 7 52 false ?_
   refine qv 58 (.bool true) <| Z17 fun w77 H78 => ?_
   refine ztn <| Z1X rfl ?_
   refine zsl <| wv 59 (.agg ⟨(Z0o)⟩) <| zwd fun Kq kq => Z1z (Z0o) H78 7 fun w80 H81 => ?_
   refine kq _ _ <| wv 9 (.int .i64 (5)) <| znt <| Zq <| ZP <| ZP <| Z9t rfl (ZL (vs := (Z0o)) rfl (by kernel_rfl) (by kernel_rfl) (Nat.le_of_ble_eq_true (by kernel_rfl)) (H81.at 7 rfl) (by kernel_rfl)) (Z10 (v := (.int .i64 (5))) rfl) ?_
   exact ⟨Zf, 5, la, lc, L, ra, rc, Lb, rfl, (Eq.symm (tk5 (by have q := b11; simpa using q) b71 (by rintro ⟨q1, q2⟩; simp [q1, q2] at b72))), (fun h => absurd h (by decide)), (fun _ => rfl), (.inl rfl), H81.pk [0, 1, 2, 3, 4, 5]⟩
  have g83 := Zr b72
  have g84 := of_decide_eq_true g83
  refine Z21 52 (.bool false) (congrArg Value.bool b72) ?_
  refine qy 7 52 false 53 (.agg ⟨(Z2e (((ZU L x.x.cl x.x.seq).getD ce0).x) (((ZU L x.x.cl x.x.seq).getD ce0).sa) (((ZU L x.x.cl x.x.seq).getD ce0).S.length) (((ZU L x.x.cl x.x.seq).getD ce0).sc))⟩) ?_ (hr := fun _ H' => (zlN (vs := (Z2e (((ZU L x.x.cl x.x.seq).getD ce0).x) (((ZU L x.x.cl x.x.seq).getD ce0).sa) (((ZU L x.x.cl x.x.seq).getD ce0).S.length) (((ZU L x.x.cl x.x.seq).getD ce0).sc))) (H'.at 9 rfl)))
  refine Z2h (Z11 7 52 false rfl (by kernel_rfl) rfl (by kernel_rfl)) (d := 54) (v := (.int .u64 (Zj (((ZU L x.x.cl x.x.seq).getD ce0).S)))) rfl (fun _ _ => by kernel_rfl) (fun w' H' => (Z3Q w' ((ZU L x.x.cl x.x.seq).getD ce0).x ((ZU L x.x.cl x.x.seq).getD ce0).sa ((ZU L x.x.cl x.x.seq).getD ce0).sc (((ZU L x.x.cl x.x.seq).getD ce0).S) (Z69 (c := ((ZU L x.x.cl x.x.seq).getD ce0)) (H'.at 2 rfl) (hcT _ (Z8x b71)).bag) (hcT _ (Z8x b71)).len).mono fun _ _ h => ⟨h.1, H'.keepU h.2⟩) ?_
  refine qy 7 52 false 55 (.agg ⟨(Z0J x)⟩) ?_ (hr := fun _ H' => (zlN (vs := (Z0J x)) (H'.at 6 rfl)))
  refine Z2h (Z11 7 52 false rfl (by kernel_rfl) rfl (by kernel_rfl)) (d := 56) (v := (.int .u64 (Zj x.S))) rfl (fun _ _ => by kernel_rfl) (fun w' H' => (Z3Q w' x.x x.sa x.sc x.S (Z69 (c := x) (H'.at 2 rfl) hxT.bag) hxT.len).mono fun _ _ h => ⟨h.1, H'.keepU h.2⟩) ?_
  refine qy 7 52 false 57 (.bool (!(decide ((Zj (((ZU L x.x.cl x.x.seq).getD ce0).S)) = (Zj x.S))))) <| qv 58 (.bool (!(decide ((Zj (((ZU L x.x.cl x.x.seq).getD ce0).S)) = (Zj x.S))))) <| Z17 fun w87 H88 => ?_
  apply ztn
  refine (ZJ (!(decide ((Zj (((ZU L x.x.cl x.x.seq).getD ce0).S)) = (Zj x.S))))).elim (fun b89 => ?_) (fun b89 => ?_)
  ·have g90 := ZS b89
   have g91 := of_decide_eq_false g90
   refine Z33 _ b89 ?_
   refine zsl <| wv 59 (.agg ⟨(Z0o)⟩) <| zwd fun Kq kq => Z1z (Z0o) H88 7 fun w95 H96 => ?_
   refine kq _ _ <| wv 9 (.int .i64 (5)) <| znt <| Zq <| ZP <| ZP <| Z9t rfl (ZL (vs := (Z0o)) rfl (by kernel_rfl) (by kernel_rfl) (Nat.le_of_ble_eq_true (by kernel_rfl)) (H96.at 7 rfl) (by kernel_rfl)) (Z10 (v := (.int .i64 (5))) rfl) ?_
   exact ⟨Zf, 5, la, lc, L, ra, rc, Lb, rfl, (Eq.symm (tk5 (by have q := b11; simpa using q) b71 (by rintro ⟨q1, q2⟩; simp [q1, q2] at b72 b89))), (fun h => absurd h (by decide)), (fun _ => rfl), (.inl rfl), H96.pk [0, 1, 2, 3, 4, 5]⟩
  have g98 := Zr b89
  have g99 := of_decide_eq_true g98
  refine Z2X _ b89 ?_
  refine Zt <| ztn <| Z5 <| Z18 H88 [Z0 t 107 (Z31 F Cn rp la L.length lc), (Z0r la L lc), Z0b B, Z3 w (ZR [Z0 t 107 [.int .i64 F, .int .i64 Cn, .int .i64 rp, .slice la (L).length lc], (Z0r la L lc), Z0b B, Z0 r 165 [.slice ra (Lb).length rc], (Z15 ra Lb rc)]).fp, Z0 b2 76 (Z0J x), Z0 b6 113 (Z0o), Z0 ab 113 (Z1I rp x.x (Zj x.S)), Z0 b64 76 (Z2e (((ZU L x.x.cl x.x.seq).getD ce0).x) (((ZU L x.x.cl x.x.seq).getD ce0).sa) (((ZU L x.x.cl x.x.seq).getD ce0).S.length) (((ZU L x.x.cl x.x.seq).getD ce0).sc))] [9] 10 rfl (by kernel_rfl) (fun Hx => (Hx.pk [0, 1, 2, 5, 6, 7, 8, 9])) fun w102 H103 S104 => ?_
  refine zkp 0 S104 60 (pt r 0) <| zkp 1 S104 61 (pt t 0) <| zkp 2 S104 62 (pt t 0) <| zkp 3 S104 63 (pt t 2) <| zkv 4 S104 64 (.int .i64 (rp)) ?_ (he := fun _ H' => (zl1 (H'.cell 0 rfl rfl)))
  refine zkv 5 S104 65 (.agg ⟨(Z1I rp x.x (Zj x.S))⟩) ?_ (he := fun _ H' => (zlN (vs := (Z1I rp x.x (Zj x.S))) (H'.at 6 rfl)))
  refine Z9r 6 fun Kq kq => ?_
  refine zdc 66 (Z4o w102 (⟨rp, x.x.cl, x.x.seq, x.x.h, Zj x.S, 0, 0⟩ : Z4) ⟨by show rp ≤ _; omega, hxx.1.1, hxx.1.2.1, htl.1, htl.2⟩) ?_
  rintro _ w106 ⟨u107, rfl, k108, p109, q110⟩
  have H111 := H103.addU p109 k108 q110
  obtain ⟨a112, c113, rfl⟩ := Z2 (H111.at 10 rfl)
  refine ⟨_, rfl, ?_⟩
  have hal := Z81 (⟨rp, x.x.cl, x.x.seq, x.x.h, Zj x.S, 0, 0⟩ : Z4)
  have S114 := H111.pk [0, 1, 2, 5, 6, 7, 8, 9]
  refine kq _ _ S114 <| Z9r 7 fun Kq kq => ?_
  refine zdc 67 (Z2F w106 r ra rc Lb (.slice a112 ((Z2K (⟨rp, x.x.cl, x.x.seq, x.x.h, Zj x.S, 0, 0⟩ : Z4)).length) c113) (Z2K (⟨rp, x.x.cl, x.x.seq, x.x.h, Zj x.S, 0, 0⟩ : Z4)) (H111.fn [3, 4, 10]) (by omega) hnb rp) ?_
  rintro _ w116 ⟨a118, c119, rfl, T117⟩
  have H120 := H111.tl [Z0 r 165 (Z3m a118 ((Zg Lb (⟨rp, (Z2K (⟨rp, x.x.cl, x.x.seq, x.x.h, Zj x.S, 0, 0⟩ : Z4))⟩ : Signed)).length) c119), (Z15 a118 (Zg Lb (⟨rp, (Z2K (⟨rp, x.x.cl, x.x.seq, x.x.h, Zj x.S, 0, 0⟩ : Z4))⟩ : Signed)) c119), (ZaJ a112 (Z2K (⟨rp, x.x.cl, x.x.seq, x.x.h, Zj x.S, 0, 0⟩ : Z4)) c113)] [3, 4, 10] [0, 1, 2, 5, 6, 7, 8, 9] T117 [3, 4, 5, 0, 1, 6, 7, 8, 9, 10, 2]
  refine ⟨_, rfl, ?_⟩
  have S121 := H120.pk [0, 1, 2, 5, 6, 7, 8, 9]
  refine kq _ _ S121 <| zkp 8 S121 68 (pt ab 36) <| Z3v 9 (Sat w [Z0 t 107 (Z31 F Cn rp la L.length lc), (Z0r la L lc), Z0b B, Z3 w (ZR [Z0 t 107 [.int .i64 F, .int .i64 Cn, .int .i64 rp, .slice la (L).length lc], (Z0r la L lc), Z0b B, Z0 r 165 [.slice ra (Lb).length rc], (Z15 ra Lb rc)]).fp, Z0 b2 76 (Z0J x), Z0 b6 113 (Z0o), Z0 b64 76 (Z2e (((ZU L x.x.cl x.x.seq).getD ce0).x) (((ZU L x.x.cl x.x.seq).getD ce0).sa) (((ZU L x.x.cl x.x.seq).getD ce0).S.length) (((ZU L x.x.cl x.x.seq).getD ce0).sc))]) rfl (by kernel_rfl) (Zb rfl) rfl (fun Kq kq => ?_)
  refine zds (Z3r rp (Ze (Zg Lb (⟨rp, (Z2K (⟨rp, x.x.cl, x.x.seq, x.x.h, Zj x.S, 0, 0⟩ : Z4))⟩ : Signed)) (⟨rp, (Z2K (⟨rp, x.x.cl, x.x.seq, x.x.h, Zj x.S, 0, 0⟩ : Z4))⟩ : Signed))) (Z3F rp x.x (Zj x.S) (Ze (Zg Lb (⟨rp, (Z2K (⟨rp, x.x.cl, x.x.seq, x.x.h, Zj x.S, 0, 0⟩ : Z4))⟩ : Signed)) (⟨rp, (Z2K (⟨rp, x.x.cl, x.x.seq, x.x.h, Zj x.S, 0, 0⟩ : Z4))⟩ : Signed))) H120 8 ?_
  intro w123 H124
  have S126 := H124.pk [0, 1, 2, 5, 6, 7, 9]
  refine kq _ _ S126 <| zhf <| ztn <| zsl <| zwN 69 (Z3F rp x.x (Zj x.S) (Ze (Zg Lb (⟨rp, (Z2K (⟨rp, x.x.cl, x.x.seq, x.x.h, Zj x.S, 0, 0⟩ : Z4))⟩ : Signed)) (⟨rp, (Z2K (⟨rp, x.x.cl, x.x.seq, x.x.h, Zj x.S, 0, 0⟩ : Z4))⟩ : Signed))) (H124.at 8 rfl) <| zwd fun Kq kq => Z1z (Z3F rp x.x (Zj x.S) (Ze (Zg Lb (⟨rp, (Z2K (⟨rp, x.x.cl, x.x.seq, x.x.h, Zj x.S, 0, 0⟩ : Z4))⟩ : Signed)) (⟨rp, (Z2K (⟨rp, x.x.cl, x.x.seq, x.x.h, Zj x.S, 0, 0⟩ : Z4))⟩ : Signed))) H124 7 fun w128 H129 => ?_
  refine kq _ _ <| wv 9 (.int .i64 (0)) <| znt <| Zq <| ZP <| Z9t rfl (ZL (vs := (Z3F rp x.x (Zj x.S) (Ze (Zg Lb (⟨rp, (Z2K (⟨rp, x.x.cl, x.x.seq, x.x.h, Zj x.S, 0, 0⟩ : Z4))⟩ : Signed)) (⟨rp, (Z2K (⟨rp, x.x.cl, x.x.seq, x.x.h, Zj x.S, 0, 0⟩ : Z4))⟩ : Signed)))) rfl (by kernel_rfl) (by kernel_rfl) (Nat.le_of_ble_eq_true (by kernel_rfl)) (H129.at 7 rfl) (by kernel_rfl)) (Z10 (v := (.int .i64 (0))) rfl) ?_
  exact ⟨(⟨rp, x.x.cl, x.x.seq, x.x.h, Zj x.S, rp, Ze (Zg Lb (⟨rp, (Z2K (⟨rp, x.x.cl, x.x.seq, x.x.h, Zj x.S, 0, 0⟩ : Z4))⟩ : Signed)) (⟨rp, (Z2K (⟨rp, x.x.cl, x.x.seq, x.x.h, Zj x.S, 0, 0⟩ : Z4))⟩ : Signed)⟩ : Z4), 0, la, lc, L, a118, c119, (Zg Lb (⟨rp, (Z2K (⟨rp, x.x.cl, x.x.seq, x.x.h, Zj x.S, 0, 0⟩ : Z4))⟩ : Signed)), rfl, (Eq.symm (tk0 (by have q := b11; simpa using q) b71 (by have q := b72; simpa using q) (by have q := b89; simpa using q))), (fun _ => ⟨rfl, rfl⟩), (fun h => absurd rfl h), (.inl rfl), H129.pk [0, 1, 2, 3, 4, 5]⟩
 refine Z2X _ b71 ?_
 refine Zt <| ztn <| Z5 <| zsl <| zwN 70 (Z0J x) (H69.at 6 rfl) <| zwd fun Kq kq => zdq 71 (Z3Q w68 x.x x.sa x.sc x.S (Z69 (c := x) (H69.at 2 rfl) hxT.bag) hxT.len) H69 fun w132 H133 => ?_
 refine kq _ _ <| wv 72 (.int .u64 (floor)) <| wv 73 (.bool (decide ((Zj x.S) ≤ floor))) <| znt ?_
 refine (ZJ (decide ((Zj x.S) ≤ floor))).elim (fun b135 => ?_) (fun b135 => ?_)
 ·have g136 := of_decide_eq_true b135
  refine Z33 _ b135 ?_
  refine zsl <| wv 74 (.agg ⟨(Z0o)⟩) <| zwd fun Kq kq => Z1z (Z0o) H133 7 fun w139 H140 => ?_
  refine kq _ _ <| wv 9 (.int .i64 (4)) <| znt <| Zq <| ZP <| Z9t rfl (ZL (vs := (Z0o)) rfl (by kernel_rfl) (by kernel_rfl) (Nat.le_of_ble_eq_true (by kernel_rfl)) (H140.at 7 rfl) (by kernel_rfl)) (Z10 (v := (.int .i64 (4))) rfl) ?_
  exact ⟨Zf, 4, la, lc, L, ra, rc, Lb, rfl, (Eq.symm (tk4 (by have q := b11; simpa using q) b71 (of_decide_eq_true b135))), (fun h => absurd h (by decide)), (fun _ => rfl), (.inl rfl), H140.pk [0, 1, 2, 3, 4, 5]⟩
 have g142 := of_decide_eq_false b135
 refine Z2X _ b135 ?_
 refine Zt <| ztn <| Z5 <| zsl <| wv 75 (pt t 0) <| wv 76 (pt t 0) <| wv 77 (pt t 3) <| zw1 78 (.slice la L.length lc) (H133.cell 0 rfl rfl) <| wv 79 (.int .i64 ((L.length : Int))) <| wv 80 (.bool (decide ((L.length : Int) ≥ 64))) ?_
 apply znt
 refine (ZJ (decide ((L.length : Int) ≥ 64))).elim (fun b144 => ?_) (fun b144 => ?_)
 ·have g145 := of_decide_eq_true b144
  refine Z33 _ b144 ?_
  refine zsl <| wv 81 (.agg ⟨(Z0o)⟩) <| zwd fun Kq kq => Z1z (Z0o) H133 7 fun w148 H149 => ?_
  refine kq _ _ <| wv 9 (.int .i64 (7)) <| znt <| Zq <| ZP <| Z9t rfl (ZL (vs := (Z0o)) rfl (by kernel_rfl) (by kernel_rfl) (Nat.le_of_ble_eq_true (by kernel_rfl)) (H149.at 7 rfl) (by kernel_rfl)) (Z10 (v := (.int .i64 (7))) rfl) ?_
  exact ⟨Zf, 7, la, lc, L, ra, rc, Lb, rfl, (Eq.symm (tk7 (by have q := b11; simpa using q) b71 (of_decide_eq_false b135) (by have q := of_decide_eq_true b144; omega))), (fun h => absurd h (by decide)), (fun _ => rfl), (.inl rfl), H149.pk [0, 1, 2, 3, 4, 5]⟩
 have g151 := of_decide_eq_false b144
 refine Z2X _ b144 ?_
 refine Zt <| ztn <| zsl <| wv 82 (pt t 0) <| wv 83 (pt t 0) <| wv 84 (pt t 3) <| zw1 85 (.slice la L.length lc) (H133.cell 0 rfl rfl) <| wv 86 (.int .i64 ((L.length : Int))) <| wv 13 (.int .i64 ((L.length : Int))) <| znt ?_
 refine Z28 ([13] ++ List.range' 87 20) (fun G_ W_ => ∃ (k : Nat), G_ 13 = (.int .i64 ((k : Int))) ∧ (Zdo L x k) ∧ Sat w [Z0 t 107 (Z31 F Cn rp la L.length lc), (Z0r la L lc), Z0b B, Z0 r 165 (Z3m ra Lb.length rc), (Z15 ra Lb rc), Z3 w (ZR [Z0 t 107 [.int .i64 F, .int .i64 Cn, .int .i64 rp, .slice la (L).length lc], (Z0r la L lc), Z0b B, Z0 r 165 [.slice ra (Lb).length rc], (Z15 ra Lb rc)]).fp, Z0 b2 76 (Z0J x), Z0 b6 113 (Z0o), Z0 ab 113 (Z1I rp x.x (Zj x.S)), Z0 b64 76 (Z2e (((ZU L x.x.cl x.x.seq).getD ce0).x) (((ZU L x.x.cl x.x.seq).getD ce0).sa) (((ZU L x.x.cl x.x.seq).getD ce0).S.length) (((ZU L x.x.cl x.x.seq).getD ce0).sc))] W_) ?_ ?_
 ·refine Za <| Zw ([13] ++ List.range' 87 20) (fun F_ W_ m_ => ∃ (k : Nat), F_ 13 = (.int .i64 ((k : Int))) ∧ (k ≤ L.length) ∧ (∀ j, k ≤ j → ∀ y, L[j]? = some y → Z7j x y = true) ∧ Sat w [Z0 t 107 (Z31 F Cn rp la L.length lc), (Z0r la L lc), Z0b B, Z0 r 165 (Z3m ra Lb.length rc), (Z15 ra Lb rc), Z3 w (ZR [Z0 t 107 [.int .i64 F, .int .i64 Cn, .int .i64 rp, .slice la (L).length lc], (Z0r la L lc), Z0b B, Z0 r 165 [.slice ra (Lb).length rc], (Z15 ra Lb rc)]).fp, Z0 b2 76 (Z0J x), Z0 b6 113 (Z0o), Z0 ab 113 (Z1I rp x.x (Zj x.S)), Z0 b64 76 (Z2e (((ZU L x.x.cl x.x.seq).getD ce0).x) (((ZU L x.x.cl x.x.seq).getD ce0).sa) (((ZU L x.x.cl x.x.seq).getD ce0).S.length) (((ZU L x.x.cl x.x.seq).getD ce0).sc))] W_ ∧ m_ = k + 1) _ ⟨L.length, (show ((.int .i64 ((L.length : Int))) : Value) = _ by first | rfl | go_num), (Nat.le_refl _), Ze2, H133, rfl⟩ ?_
  rintro g154 w155 _ ⟨k, v157, hk, hup, H156, rfl⟩
  refine Zd 13 _ v157 ?_
  refine Z5 <| Z5 <| zqs H156 ?_
  refine qv 87 (.int .i64 ((k : Int))) <| qv 88 (.bool (decide ((k : Int) > 0))) <| qv 89 (.bool (decide ((k : Int) > 0))) ?_
  refine (ZJ (decide ((k : Int) > 0))).elim (fun b159 => ?_) (fun b159 => ?_)
  ·have g160 := of_decide_eq_true b159
   refine Z21 89 (.bool true) (congrArg Value.bool b159) ?_
   refine qy 2 89 true 90 (pt b2 0) <| qy 2 89 true 91 (pt b2 0) <| qy 2 89 true 92 (.agg ⟨(Z3r x.x.cl x.x.seq)⟩) ?_ (hr := fun _ H' => (zlN (vs := (Z3r x.x.cl x.x.seq)) (H'.at 6 rfl)))
   refine qy 2 89 true 93 (pt t 0) <| qy 2 89 true 94 (pt t 0) <| qy 2 89 true 95 (pt t 3) <| qy 2 89 true 96 (.slice la L.length lc) ?_ (hr := fun _ H' => (zl1 (H'.cell 0 rfl rfl)))
   refine qy 2 89 true 97 (.int .i64 ((k : Int))) <| qy 2 89 true 98 (.int .i64 ((k : Int) - 1)) ?_ (hr := fun _ H' => (Z0g (z := (k : Int) - 1) (by kernel_rfl) (IntWalk.i64_in _ (by omega))))
   obtain ⟨g162, c163, e164⟩ := Z0z (H156.at 1 rfl) (by omega)
   obtain ⟨x165, h166⟩ := Z3E (show ((k : Int) - 1).toNat < L.length by omega)
   refine qy 2 89 true 99 (.pointer (some ⟨g162, 0 + ((k : Int) - 1).toNat * 38, none⟩)) ?_ (hr := fun _ H' => (Z04 (E := 76) (by kernel_rfl) (by kernel_rfl) (Nat.le_of_ble_eq_true rfl) rfl e164 rfl (by omega) (by omega)))
   refine qy 2 89 true 100 (.pointer (some ⟨g162, 0 + ((k : Int) - 1).toNat * 38, none⟩)) <| qy 2 89 true 101 (.pointer (some ⟨g162, 0 + ((k : Int) - 1).toNat * 38, none⟩)) <| qy 2 89 true 102 (.agg ⟨(Z3r x165.x.cl x165.x.seq)⟩) ?_ (hr := fun _ H' => (Z05 (vs := (Z3r x165.x.cl x165.x.seq)) rfl (by kernel_rfl) (by kernel_rfl) (Nat.le_of_ble_eq_true (by kernel_rfl)) (Z2n (H'.at 1 rfl) e164 Z0N h166 0 (show 0 + ((k : Int) - 1).toNat * 38 = ((k : Int) - 1).toNat * 38 + 0 by omega) (by kernel_rfl) (by kernel_rfl))))
   refine Z2h (Z11 2 89 true rfl (by kernel_rfl) rfl (by kernel_rfl)) (d := 103) (v := (.bool (decide (x.x.cl < x165.x.cl) || (decide (x.x.cl = x165.x.cl) && decide (x.x.seq < x165.x.seq))))) rfl (fun _ _ => by kernel_rfl) (fun w' H' => (Zd1 w' x.x.cl x.x.seq x165.x.cl x165.x.seq).mono fun _ _ h => ⟨h.1, H'.keepU h.2⟩) ?_
   refine qv 104 (.bool (decide (x.x.cl < x165.x.cl) || (decide (x.x.cl = x165.x.cl) && decide (x.x.seq < x165.x.seq)))) <| Z17 fun w167 H168 => ?_
   apply ztn
   refine (ZJ (decide (x.x.cl < x165.x.cl) || (decide (x.x.cl = x165.x.cl) && decide (x.x.seq < x165.x.seq)))).elim (fun b169 => ?_) (fun b169 => ?_)
   ·refine Z33 _ b169 ?_
    refine Zt <| ztn <| Za <| Zl <| wv 105 (.int .i64 ((k : Int))) <| zwi 106 ((k : Int) - 1) <| wv 13 (.int .i64 ((k : Int) - 1)) <| Zu <| Z7 <| Z6 ?_ _ ⟨(k - 1), (show ((.int .i64 ((k : Int) - 1)) : Value) = _ by first | rfl | go_num), (by omega), (Zfq hup (show L[k - 1]? = some x165 from (show ((k : Int) - 1).toNat = k - 1 by omega) ▸ h166) b169), H168, rfl⟩ (by omega)
    exact zs
   refine Z2X _ b169 ?_
   apply zxb
   have hpa : Zdo L x k := ⟨hk, hup, .inr ⟨x165, (show L[k - 1]? = some x165 from (show ((k : Int) - 1).toNat = k - 1 by omega) ▸ h166), b169⟩⟩
   refine Z01 ?_ ⟨k, rfl, hpa, H168⟩
   exact zs
  have g170 := of_decide_eq_false b159
  refine Z21 89 (.bool false) (congrArg Value.bool b159) ?_
  iterate 14 refine qn 2 89 true ?_
  refine qv 104 (.bool false) <| Z17 fun w172 H173 => ?_
  refine ztn <| Z2O rfl ?_
  apply zxb
  have hpa : Zdo L x k := ⟨hk, hup, .inl (by omega)⟩
  refine Z01 ?_ ⟨k, rfl, hpa, H173⟩
  exact zs
 rintro f174 w175 ⟨k, v177, hpa, H176⟩
 refine Zd 13 _ v177 ?_
 apply Z5
 have hk := hpa.le
 refine Z18 H176 [Z0 t 107 (Z31 F Cn rp la L.length lc), (Z0r la L lc), Z0b B, Z0 r 165 (Z3m ra Lb.length rc), (Z15 ra Lb rc), Z3 w (ZR [Z0 t 107 [.int .i64 F, .int .i64 Cn, .int .i64 rp, .slice la (L).length lc], (Z0r la L lc), Z0b B, Z0 r 165 [.slice ra (Lb).length rc], (Z15 ra Lb rc)]).fp, Z0 b2 76 (Z0J x), Z0 b6 113 (Z0o), Z0 ab 113 (Z1I rp x.x (Zj x.S)), Z0 b64 76 (Z2e (((ZU L x.x.cl x.x.seq).getD ce0).x) (((ZU L x.x.cl x.x.seq).getD ce0).sa) (((ZU L x.x.cl x.x.seq).getD ce0).S.length) (((ZU L x.x.cl x.x.seq).getD ce0).sc))] [20] 21 rfl (by kernel_rfl) (fun Hx => (Hx.pk [0, 1, 2, 3, 4, 5, 6, 7, 8, 9])) ?_
 intro w178 H179 S180
 refine zkp 0 S180 107 (pt t 0) <| zkp 1 S180 108 (pt t 0) <| zkp 2 S180 109 (pt t 0) <| zkp 3 S180 110 (pt t 3) <| zkv 4 S180 111 (.slice la L.length lc) ?_ (he := fun _ H' => (zl1 (H'.cell 0 rfl rfl)))
 refine zkp 5 S180 112 (.int .i64 ((k : Int))) <| zkp 6 S180 113 (.int .i64 ((k : Int))) <| zkp 7 S180 114 (.slice la k k) ?_ (he := fun _ => (Ze8 (E := 76) (q := k) (by kernel_rfl) (by kernel_rfl) rfl rfl rfl rfl rfl (by omega)))
 refine zkv 8 S180 115 (.agg ⟨(Z0J x)⟩) ?_ (he := fun _ H' => (zlN (vs := (Z0J x)) (H'.at 6 rfl)))
 refine zkp 10 S180 117 (pt t 0) <| zkp 11 S180 118 (pt t 0) <| zkp 12 S180 119 (pt t 3) <| zkv 13 S180 120 (.slice la L.length lc) ?_ (he := fun _ H' => (zl1 (H'.cell 0 rfl rfl)))
 refine zkp 14 S180 121 (.int .i64 ((k : Int))) <| zkp 15 S180 122 (.slice (if lc = k then la else la.map (·.add (k * 38))) (L.length - k) (lc - k)) ?_ (he := fun _ => (Z4Z (E := 76) (q := k) (by kernel_rfl) (by kernel_rfl) rfl rfl rfl (by omega)))
 refine Z9r 9 fun Kq kq => ?_
 refine Z2w 76 38 96 (.agg ⟨(Zdp)⟩) [(0, (.agg ⟨(Z0J x)⟩))] (Z0J x) H179 ?_
 intro b182 w183 H184
 have H185 := H184.ct 10 rfl (Zc 76 38 (.slice (some ⟨b182, 0, none⟩) 1 1) 1 ([x].flatMap Z0V)) (by rw [(show ((Z0J x) : List Value) = [x].flatMap Z0V by kernel_rfl)])
 have S186 := H185.pk [0, 1, 2, 3, 4, 5, 6, 7, 8, 9]
 refine kq _ _ S186 <| Z9r 16 fun Kq kq => ?_
 refine Z4F (T := 67) (e := 76) (size := 38) (bytes := 96) rfl H185 (by kernel_rfl) Z0N Z5t 10 rfl (ListAt.dropG (k := k) (ListAt.row (enc := Z0V) (sz := 38) Z0N (by decide) (H185.at 1 rfl)) (by omega)) rfl rfl (by first | omega | (simp only [List.length_append, List.length_drop, List.length_cons, List.length_nil]; omega)) (by first | omega | (simp only [List.length_append, List.length_drop, List.length_cons, List.length_nil]; omega)) ?_
 intro v188 w189 (H191 : Sat w [Z0 t 107 (Z31 F Cn rp la L.length lc), (Z0r la L lc), Z0b B, Z0 r 165 (Z3m ra Lb.length rc), (Z15 ra Lb rc), Z3 w (ZR [Z0 t 107 [.int .i64 F, .int .i64 Cn, .int .i64 rp, .slice la (L).length lc], (Z0r la L lc), Z0b B, Z0 r 165 [.slice ra (Lb).length rc], (Z15 ra Lb rc)]).fp, Z0 b2 76 (Z0J x), Z0 b6 113 (Z0o), Z0 ab 113 (Z1I rp x.x (Zj x.S)), Z0 b64 76 (Z2e (((ZU L x.x.cl x.x.seq).getD ce0).x) (((ZU L x.x.cl x.x.seq).getD ce0).sa) (((ZU L x.x.cl x.x.seq).getD ce0).S.length) (((ZU L x.x.cl x.x.seq).getD ce0).sc)), Zc 76 38 v188 (([x]).length + (L.drop k).length) (([x]).flatMap Z0V ++ (L.drop k).flatMap Z0V)] w189)
 have H190 : Sat w [Z0 t 107 (Z31 F Cn rp la L.length lc), (Z0r la L lc), Z0b B, Z0 r 165 (Z3m ra Lb.length rc), (Z15 ra Lb rc), Z3 w (ZR [Z0 t 107 [.int .i64 F, .int .i64 Cn, .int .i64 rp, .slice la (L).length lc], (Z0r la L lc), Z0b B, Z0 r 165 [.slice ra (Lb).length rc], (Z15 ra Lb rc)]).fp, Z0 b2 76 (Z0J x), Z0 b6 113 (Z0o), Z0 ab 113 (Z1I rp x.x (Zj x.S)), Z0 b64 76 (Z2e (((ZU L x.x.cl x.x.seq).getD ce0).x) (((ZU L x.x.cl x.x.seq).getD ce0).sa) (((ZU L x.x.cl x.x.seq).getD ce0).S.length) (((ZU L x.x.cl x.x.seq).getD ce0).sc)), Zc 76 38 v188 ((([x]) ++ (L.drop k)).length) ((([x]) ++ (L.drop k)).flatMap Z0V)] w189 := H191.cast (by simp only [List.length_append, List.flatMap_append])
 obtain ⟨a192, c193, rfl⟩ := Z2 (H190.at 10 rfl)
 have S194 := H190.pk [0, 1, 2, 3, 4, 5, 6, 7, 8, 9]
 refine kq _ _ S194 <| Z9r 17 fun Kq kq => ?_
 refine Z8A (T := 67) (e := 76) (size := 38) (bytes := 96) rfl H190 (by kernel_rfl) Z0N Z5t (ListAt.take3 (ListAt.row (enc := Z0V) (sz := 38) Z0N (by decide) (H190.at 1 rfl)) (by omega) (by decide) Z0N) (by rw [List.length_take]; omega) (ListAt.row (enc := Z0V) (sz := 38) Z0N (by decide) (H190.at 10 rfl)) (by simp only [List.length_append, List.length_cons, List.length_nil, List.length_drop, List.length_take]; omega) rfl rfl (by simp only [List.length_append, List.length_cons, List.length_nil, List.length_drop, List.length_take]; omega) (by simp only [List.length_append, List.length_cons, List.length_nil, List.length_drop, List.length_take]; omega) ?_
 intro v196 w197 H198
 obtain ⟨a199, c200, rfl⟩ := Z2 (H198.at 11 rfl)
 have S201 := H198.pk [0, 1, 2, 3, 4, 5, 6, 7, 8, 9]
 refine kq _ _ S201 <| zkp 18 S201 125 (pt t 0) <| zkp 19 S201 126 (pt t 3) <| Z3v 20 (Sat w [(Z0r la L lc), Z0b B, Z0 r 165 (Z3m ra Lb.length rc), (Z15 ra Lb rc), Z3 w (ZR [Z0 t 107 [.int .i64 F, .int .i64 Cn, .int .i64 rp, .slice la (L).length lc], (Z0r la L lc), Z0b B, Z0 r 165 [.slice ra (Lb).length rc], (Z15 ra Lb rc)]).fp, Z0 b2 76 (Z0J x), Z0 b6 113 (Z0o), Z0 ab 113 (Z1I rp x.x (Zj x.S)), Z0 b64 76 (Z2e (((ZU L x.x.cl x.x.seq).getD ce0).x) (((ZU L x.x.cl x.x.seq).getD ce0).sa) (((ZU L x.x.cl x.x.seq).getD ce0).S.length) (((ZU L x.x.cl x.x.seq).getD ce0).sc))]) rfl (by kernel_rfl) (Zb rfl) rfl (fun Kq kq => ?_)
 refine zds (Z3m a199 (((L.take k) ++ (([x]) ++ (L.drop k))).length) c200) (Z31 F Cn rp a199 (((L.take k) ++ (([x]) ++ (L.drop k))).length) c200) H198 0 ?_
 intro w203 H204
 have S206 := H204.pk [1, 2, 3, 4, 5, 6, 7, 8, 9]
 refine kq _ _ S206 <| zhf <| ztn <| Z5 <| Z18 H204 [Z0 t 107 (Z31 F Cn rp a199 (((L.take k) ++ (([x]) ++ (L.drop k))).length) c200), (Z0r la L lc), Z0b B, Z3 w (ZR [Z0 t 107 [.int .i64 F, .int .i64 Cn, .int .i64 rp, .slice la (L).length lc], (Z0r la L lc), Z0b B, Z0 r 165 [.slice ra (Lb).length rc], (Z15 ra Lb rc)]).fp, Z0 b2 76 (Z0J x), Z0 b6 113 (Z0o), Z0 ab 113 (Z1I rp x.x (Zj x.S)), Z0 b64 76 (Z2e (((ZU L x.x.cl x.x.seq).getD ce0).x) (((ZU L x.x.cl x.x.seq).getD ce0).sa) (((ZU L x.x.cl x.x.seq).getD ce0).S.length) (((ZU L x.x.cl x.x.seq).getD ce0).sc)), (Z0r a192 (([x]) ++ (L.drop k)) c193), (Z0r a199 ((L.take k) ++ (([x]) ++ (L.drop k))) c200)] [9] 10 rfl (by kernel_rfl) (fun Hx => (Hx.pk [0, 1, 2, 5, 6, 7, 8, 9, 10, 11])) fun w207 H208 S209 => ?_
 refine zkp 0 S209 127 (pt r 0) <| zkp 1 S209 128 (pt t 0) <| zkp 2 S209 129 (pt t 0) <| zkp 3 S209 130 (pt t 2) <| zkv 4 S209 131 (.int .i64 (rp)) ?_ (he := fun _ H' => (zl1 (H'.cell 0 rfl rfl)))
 refine zkv 5 S209 132 (.agg ⟨(Z1I rp x.x (Zj x.S))⟩) ?_ (he := fun _ H' => (zlN (vs := (Z1I rp x.x (Zj x.S))) (H'.at 6 rfl)))
 refine Z9r 6 fun Kq kq => ?_
 refine zdc 133 (Z4o w207 (⟨rp, x.x.cl, x.x.seq, x.x.h, Zj x.S, 0, 0⟩ : Z4) ⟨by show rp ≤ _; omega, hxx.1.1, hxx.1.2.1, htl.1, htl.2⟩) ?_
 rintro _ w211 ⟨u212, rfl, k213, p214, q215⟩
 have H216 := H208.addU p214 k213 q215
 obtain ⟨a217, c218, rfl⟩ := Z2 (H216.at 12 rfl)
 refine ⟨_, rfl, ?_⟩
 have hal := Z81 (⟨rp, x.x.cl, x.x.seq, x.x.h, Zj x.S, 0, 0⟩ : Z4)
 have S219 := H216.pk [0, 1, 2, 5, 6, 7, 8, 9, 10, 11]
 refine kq _ _ S219 <| Z9r 7 fun Kq kq => ?_
 refine zdc 134 (Z2F w211 r ra rc Lb (.slice a217 ((Z2K (⟨rp, x.x.cl, x.x.seq, x.x.h, Zj x.S, 0, 0⟩ : Z4)).length) c218) (Z2K (⟨rp, x.x.cl, x.x.seq, x.x.h, Zj x.S, 0, 0⟩ : Z4)) (H216.fn [3, 4, 12]) (by omega) hnb rp) ?_
 rintro _ w221 ⟨a223, c224, rfl, T222⟩
 have H225 := H216.tl [Z0 r 165 (Z3m a223 ((Zg Lb (⟨rp, (Z2K (⟨rp, x.x.cl, x.x.seq, x.x.h, Zj x.S, 0, 0⟩ : Z4))⟩ : Signed)).length) c224), (Z15 a223 (Zg Lb (⟨rp, (Z2K (⟨rp, x.x.cl, x.x.seq, x.x.h, Zj x.S, 0, 0⟩ : Z4))⟩ : Signed)) c224), (ZaJ a217 (Z2K (⟨rp, x.x.cl, x.x.seq, x.x.h, Zj x.S, 0, 0⟩ : Z4)) c218)] [3, 4, 12] [0, 1, 2, 5, 6, 7, 8, 9, 10, 11] T222 [3, 4, 5, 0, 1, 6, 7, 8, 9, 10, 11, 12, 2]
 refine ⟨_, rfl, ?_⟩
 have S226 := H225.pk [0, 1, 2, 5, 6, 7, 8, 9, 10, 11]
 refine kq _ _ S226 <| zkp 8 S226 135 (pt ab 36) <| Z3v 9 (Sat w [Z0 t 107 (Z31 F Cn rp a199 (((L.take k) ++ (([x]) ++ (L.drop k))).length) c200), (Z0r la L lc), Z0b B, Z3 w (ZR [Z0 t 107 [.int .i64 F, .int .i64 Cn, .int .i64 rp, .slice la (L).length lc], (Z0r la L lc), Z0b B, Z0 r 165 [.slice ra (Lb).length rc], (Z15 ra Lb rc)]).fp, Z0 b2 76 (Z0J x), Z0 b6 113 (Z0o), Z0 b64 76 (Z2e (((ZU L x.x.cl x.x.seq).getD ce0).x) (((ZU L x.x.cl x.x.seq).getD ce0).sa) (((ZU L x.x.cl x.x.seq).getD ce0).S.length) (((ZU L x.x.cl x.x.seq).getD ce0).sc)), (Z0r a192 (([x]) ++ (L.drop k)) c193), (Z0r a199 ((L.take k) ++ (([x]) ++ (L.drop k))) c200)]) rfl (by kernel_rfl) (Zb rfl) rfl (fun Kq kq => ?_)
 refine zds (Z3r rp (Ze (Zg Lb (⟨rp, (Z2K (⟨rp, x.x.cl, x.x.seq, x.x.h, Zj x.S, 0, 0⟩ : Z4))⟩ : Signed)) (⟨rp, (Z2K (⟨rp, x.x.cl, x.x.seq, x.x.h, Zj x.S, 0, 0⟩ : Z4))⟩ : Signed))) (Z3F rp x.x (Zj x.S) (Ze (Zg Lb (⟨rp, (Z2K (⟨rp, x.x.cl, x.x.seq, x.x.h, Zj x.S, 0, 0⟩ : Z4))⟩ : Signed)) (⟨rp, (Z2K (⟨rp, x.x.cl, x.x.seq, x.x.h, Zj x.S, 0, 0⟩ : Z4))⟩ : Signed))) H225 8 ?_
 intro w228 H229
 have S231 := H229.pk [0, 1, 2, 5, 6, 7, 9, 10, 11]
 refine kq _ _ S231 <| zhf <| ztn <| zsl <| zwN 136 (Z3F rp x.x (Zj x.S) (Ze (Zg Lb (⟨rp, (Z2K (⟨rp, x.x.cl, x.x.seq, x.x.h, Zj x.S, 0, 0⟩ : Z4))⟩ : Signed)) (⟨rp, (Z2K (⟨rp, x.x.cl, x.x.seq, x.x.h, Zj x.S, 0, 0⟩ : Z4))⟩ : Signed))) (H229.at 8 rfl) <| zwd fun Kq kq => Z1z (Z3F rp x.x (Zj x.S) (Ze (Zg Lb (⟨rp, (Z2K (⟨rp, x.x.cl, x.x.seq, x.x.h, Zj x.S, 0, 0⟩ : Z4))⟩ : Signed)) (⟨rp, (Z2K (⟨rp, x.x.cl, x.x.seq, x.x.h, Zj x.S, 0, 0⟩ : Z4))⟩ : Signed))) H229 7 fun w233 H234 => ?_
 refine kq _ _ <| wv 9 (.int .i64 (0)) <| znt <| Zq <| Z9t rfl (ZL (vs := (Z3F rp x.x (Zj x.S) (Ze (Zg Lb (⟨rp, (Z2K (⟨rp, x.x.cl, x.x.seq, x.x.h, Zj x.S, 0, 0⟩ : Z4))⟩ : Signed)) (⟨rp, (Z2K (⟨rp, x.x.cl, x.x.seq, x.x.h, Zj x.S, 0, 0⟩ : Z4))⟩ : Signed)))) rfl (by kernel_rfl) (by kernel_rfl) (Nat.le_of_ble_eq_true (by kernel_rfl)) (H234.at 7 rfl) (by kernel_rfl)) (Z10 (v := (.int .i64 (0))) rfl) ?_
 exact ⟨(⟨rp, x.x.cl, x.x.seq, x.x.h, Zj x.S, rp, Ze (Zg Lb (⟨rp, (Z2K (⟨rp, x.x.cl, x.x.seq, x.x.h, Zj x.S, 0, 0⟩ : Z4))⟩ : Signed)) (⟨rp, (Z2K (⟨rp, x.x.cl, x.x.seq, x.x.h, Zj x.S, 0, 0⟩ : Z4))⟩ : Signed)⟩ : Z4), 0, a199, c200, ((L.take k) ++ (([x]) ++ (L.drop k))), a223, c224, (Zg Lb (⟨rp, (Z2K (⟨rp, x.x.cl, x.x.seq, x.x.h, Zj x.S, 0, 0⟩ : Z4))⟩ : Signed)), rfl, (Eq.symm (tkn (by have q := b11; simpa using q) b71 (of_decide_eq_false b135) (by have q := of_decide_eq_false b144; omega))), (fun _ => ⟨rfl, rfl⟩), (fun h => absurd rfl h), (.inr ⟨(by have q := b11; simpa using q), b71, k, hpa, by simp⟩), H234.pk [0, 11, 2, 3, 4, 5]⟩
end Go.Proofs.YtenihpghfdcpkaaGreat
