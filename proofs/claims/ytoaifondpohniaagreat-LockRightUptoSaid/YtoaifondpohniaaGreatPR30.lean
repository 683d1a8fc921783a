/- WHAT IS PROVED: contracts and plain laws of TabT. Conditions: stated with each. -/
import Derived.Test.YtoaifondpohniaaGreatPR04
import Derived.Test.YtoaifondpohniaaGreatPR15
import Derived.Test.YtoaifondpohniaaGreatPR21
import Derived.Test.YtoaifondpohniaaGreatPR29
set_option maxHeartbeats 4000000
set_option maxRecDepth 100000
namespace Go.Proofs.YtoaifondpohniaaGreat
open Go.RowKit
abbrev Z2i (p0 : Int) (p1 : Int) (p2 : Int) (p3 : Option Addr) (p4 : Nat) (p5 : Nat) : List Value := ([(.int .i64 p0), (.int .i64 p1), (.int .i64 p2), (.slice p3 p4 p5)] : List Value)
abbrev Z0G (p0 : Option Addr) (p1 : List CeR) (p2 : Nat) : Ck := ZH 53 38 (.slice p0 p1.length p2) p1.length (p1.flatMap Z0h)
abbrev Z2v (p0 : Option Addr) (p1 : Nat) (p2 : Nat) : List Value := ([(.slice p0 p1 p2)] : List Value)
abbrev Z16 (p0 : Option Addr) (p1 : List Signed) (p2 : Nat) : Ck := ZH 114 2 (.slice p0 p1.length p2) p1.length (p1.flatMap Z43)
abbrev Z0R (p0 : CeR) : List Value := ([(.int .i64 p0.x.cl), (.int .i64 p0.x.seq)] : List Value) ++ hc p0.x.h ++ ([(.int .i64 p0.x.len), (.int .i64 p0.x.sb), (.int .i64 p0.x.sm), (.slice p0.sa p0.S.length p0.sc)] : List Value)
abbrev Z0x : List Value := ([(.int .i64 (0)), (.int .i64 (0)), (.int .i64 (0))] : List Value) ++ hc Z0d ++ ([(.int .u64 (0)), (.int .i64 (0)), (.int .i64 (0))] : List Value)
abbrev Z2w (p0 : Int) (p1 : Int) : List Value := ([(.int .i64 p0), (.int .i64 p1)] : List Value)
abbrev Z1x (p0 : Int) (p1 : Zg) (p2 : Int) : List Value := ([(.int .i64 p0), (.int .i64 p1.cl), (.int .i64 p1.seq)] : List Value) ++ hc p1.h ++ ([(.int .u64 p2), (.int .i64 (0)), (.int .i64 (0))] : List Value)
abbrev Z1Q (p0 : Zg) (p1 : Option Addr) (p2 : Nat) (p3 : Nat) : List Value := ([(.int .i64 p0.cl), (.int .i64 p0.seq)] : List Value) ++ hc p0.h ++ ([(.int .i64 p0.len), (.int .i64 p0.sb), (.int .i64 p0.sm), (.slice p1 p2 p3)] : List Value)
abbrev Zal : List Value := ([(.int .i64 (0)), (.int .i64 (0))] : List Value) ++ hc Z0d ++ ([(.int .i64 (0)), (.int .i64 (0)), (.int .i64 (0)), (.slice none 0 0)] : List Value)
abbrev Z8T (p0 : Option Addr) (p1 : List UInt8) (p2 : Nat) : Ck := ZH 5 1 (.slice p0 p1.length p2) p1.length (p1.flatMap ZN)
abbrev Z2F (p0 : Int) (p1 : Zg) (p2 : Int) (p3 : Int) : List Value := ([(.int .i64 p0), (.int .i64 p1.cl), (.int .i64 p1.seq)] : List Value) ++ hc p1.h ++ ([(.int .u64 p2), (.int .i64 p0), (.int .i64 p3)] : List Value)
theorem ZaH (w : World) (t : Nat) (F Cn rp : Int) (la : Option Addr) (lc : Nat) (L : List CeR) (B : List Ck) (r : Nat) (ra : Option Addr) (rc : Nat) (Lb : List Signed) (hA : (Z0c [Z0 t 45 [.int .i64 F, .int .i64 Cn, .int .i64 rp, .slice la (L).length lc], ZH 53 38 (.slice la (L).length lc) (L).length ((L).flatMap Z0h), Z0o B, Z0 r 98 [.slice ra (Lb).length rc], ZH 114 2 (.slice ra (Lb).length rc) (Lb).length ((Lb).flatMap Z43)]).ok w) (hlL : L.length ≤ 64) (hcT : ∀ c ∈ L, CeT B c) (hrp : 0 ≤ rp ∧ rp ≤ 1000000) (hnb : Lb.Nodup) (hlb : Lb.length ≤ 100000) (hF : -1099511627776 ≤ F ∧ F ≤ 1099511627776) (floor : Int) (x : CeR) (hxT : CeT B x) :
  Calls Tryz.prog 11 #[(.pointer (some ⟨t, 0, none⟩)), (.pointer (some ⟨r, 0, none⟩)), (.int .u64 (floor)), (.agg ⟨(([(.int .i64 (x.x.cl)), (.int .i64 (x.x.seq))] : List Value) ++ hc x.x.h ++ ([(.int .i64 (x.x.len)), (.int .i64 (x.x.sb)), (.int .i64 (x.x.sm)), (.slice x.sa x.S.length x.sc)] : List Value))⟩)] w fun e w' => ∃ (a : Z5) (er : Int) (la' : Option Addr) (lc' : Nat) (L' : List CeR) (ra' : Option Addr) (rc' : Nat) (Lb' : List Signed), e = .returned (.tuple #[.agg ⟨Z0J a⟩, .int .i64 er]) ∧ er = Z4b F Cn floor Lb L x ∧ (er = 0 → a = ackS rp Lb x ∧ Lb' = Zk Lb (ackY rp x)) ∧ (¬ er = 0 → Lb' = Lb) ∧ ((L' = L ∧ (er = 0 → (ZR L x.x.cl x.x.seq).isSome = true) ∧ (¬ er = 0 → a = Z9)) ∨ ((er = 0 ∧ Z06 F Cn Lb x.x x.S = true) ∧ (ZR L x.x.cl x.x.seq).isSome = false ∧ ∃ k, Z7U L x k ∧ L' = L.take k ++ x :: L.drop k)) ∧ Sat w [Z0 t 45 [.int .i64 F, .int .i64 Cn, .int .i64 rp, .slice la' (L').length lc'], ZH 53 38 (.slice la' (L').length lc') (L').length ((L').flatMap Z0h), Z0o B, Z0 r 98 [.slice ra' Lb'.length rc'], ZH 114 2 (.slice ra' Lb'.length rc') Lb'.length (Lb'.flatMap Z43), Z6 w (Z0c [Z0 t 45 [.int .i64 F, .int .i64 Cn, .int .i64 rp, .slice la (L).length lc], ZH 53 38 (.slice la (L).length lc) (L).length ((L).flatMap Z0h), Z0o B, Z0 r 98 [.slice ra (Lb).length rc], ZH 114 2 (.slice ra (Lb).length rc) (Lb).length ((Lb).flatMap Z43)]).fp] w' := by
 have H := Sat.start0 w
 have hxx := hxT.x
 unfold CoB at hxx
 have htl := Z95 hxT
 have H := Sat.start _ hA
 have hcap := ListAt.cap (ListAt.row (enc := Z0h) (sz := 38) ZZ (by decide) (H.at 1 rfl))
 refine Zp Tryz.func11 rfl 137 rfl (Nat.le_of_ble_eq_true rfl) ?_
 apply zsl
 refine zwd fun Kq kq => ?_
 refine zdb (Z0R x) H ?_
 intro b2 w3 H4
 refine kq _ _ ?_
 clear kq Kq
 refine zwd fun Kq kq => ?_
 refine zda (Z0x) H4 ?_
 intro b6 w7 H8
 refine kq _ _ ?_
 clear kq Kq
 refine wv 9 (.int .i64 (0)) ?_
 apply znt
 apply Zt
 apply Zt
 refine zqs H8 ?_
 refine qv 14 (pt t 0) ?_
 refine qv 15 (pt t 0) ?_
 refine qv 16 (pt t 0) ?_
 refine qv 17 (.agg ⟨(Z2w F Cn)⟩) ?_ (hr := fun _ H' => (Zc (vs := (Z2w F Cn)) rfl (by kernel_rfl) (by kernel_rfl) (by exact Nat.le_of_ble_eq_true (by kernel_rfl)) (H'.at 0 rfl) (by kernel_rfl)))
 refine qv 18 (pt r 0) ?_
 refine qv 19 (.agg ⟨(Z0R x)⟩) ?_ (hr := fun _ H' => (Zc (vs := (Z0R x)) rfl (by kernel_rfl) (by kernel_rfl) (by exact Nat.le_of_ble_eq_true (by kernel_rfl)) (H'.at 6 rfl) (by kernel_rfl)))
 refine Z0B (Zs rfl) (d := 20) (v := (.bool (Z06 F Cn Lb x.x x.S))) rfl (fun _ _ => by kernel_rfl) (fun w' H' => (Z49 w' F Cn hF r ra rc Lb (H'.at 3 rfl) (H'.at 4 rfl) hnb (by omega) x.x hxx.1 x.sa x.sc x.S (Z3S (c := x) (H'.at 2 rfl) hxT.bag) (fun i hi => (hxT.S i hi).1) (Nat.le_trans hxT.len (by decide))).mono fun _ _ h => ⟨h.1, H'.keepU h.2⟩) ?_
 refine qv 21 (.bool (!(Z06 F Cn Lb x.x x.S))) ?_
 refine Z0S ?_
 intro w9 H10
 apply ztn
 refine (Zl (!(Z06 F Cn Lb x.x x.S))).elim (fun b11 => ?_) (fun b11 => ?_)
 ·have g12 := Zy b11
  refine Z1o _ b11 ?_
  apply zsl
  refine wv 22 (.agg ⟨(Z0x)⟩) ?_
  refine zwd fun Kq kq => ?_
  refine Z2k (Z0x) H10 7 ?_
  intro w15 H16
  refine kq _ _ ?_
  clear kq Kq
  refine wv 9 (.int .i64 (3)) ?_
  apply znt
  apply ZA
  apply Zr
  refine Z9g rfl (Z0i (vs := (Z0x)) rfl (by kernel_rfl) (by kernel_rfl) (by exact Nat.le_of_ble_eq_true (by kernel_rfl)) (H16.at 7 rfl) (by kernel_rfl)) (Z1m (v := (.int .i64 (3))) rfl) ?_
  exact ⟨Z9, 3, la, lc, L, ra, rc, Lb, rfl, (Eq.symm (tk3 (by have q := b11; simpa using q))), (fun h => absurd h (by decide)), (fun _ => rfl), (.inl ⟨rfl, (fun h => absurd h (by decide)), (fun _ => rfl)⟩), H16.pk [0, 1, 2, 3, 4, 5]⟩
 have g18 := Za b11
 refine Z18 _ b11 ?_
 apply ZL
 apply ztn
 refine Z0X ([10] ++ List.range' 23 13) (fun G_ W_ => ∃ (ab : Nat), G_ 10 = (pt ab 0) ∧ Sat w [Z0 t 45 (Z2i F Cn rp la L.length lc), (Z0G la L lc), Z0o B, Z0 r 98 (Z2v ra Lb.length rc), (Z16 ra Lb rc), Z6 w (Z0c [Z0 t 45 [.int .i64 F, .int .i64 Cn, .int .i64 rp, .slice la (L).length lc], (Z0G la L lc), Z0o B, Z0 r 98 [.slice ra (Lb).length rc], (Z16 ra Lb rc)]).fp, Z0 b2 53 (Z0R x), Z0 b6 31 (Z0x), Z0 ab 31 (Z1x rp x.x (ZK x.S))] W_) ?_ ?_
 ·refine Z00 H10 [Z0 t 45 (Z2i F Cn rp la L.length lc), (Z0G la L lc), Z0o B, Z0 r 98 (Z2v ra Lb.length rc), (Z16 ra Lb rc), Z6 w (Z0c [Z0 t 45 [.int .i64 F, .int .i64 Cn, .int .i64 rp, .slice la (L).length lc], (Z0G la L lc), Z0o B, Z0 r 98 [.slice ra (Lb).length rc], (Z16 ra Lb rc)]).fp, Z0 b2 53 (Z0R x), Z0 b6 31 (Z0x)] 15 rfl (by kernel_rfl) (fun Hx => (Hx.pk [0, 1, 2, 3, 4, 5, 6, 7])) ?_
  intro w21 H22 S23
  refine hv0 0 S23 23 (pt t 0) ?_
  refine hv0 1 S23 24 (pt t 0) ?_
  refine hv0 2 S23 25 (pt t 2) ?_
  refine hv0 3 S23 26 (.int .i64 (rp)) ?_ (he := fun _ H' => (Z2 rfl (by kernel_rfl) (H'.cell 0 rfl rfl)))
  refine hv0 4 S23 27 (pt b2 0) ?_
  refine hv0 5 S23 28 (pt b2 0) ?_
  refine hv0 6 S23 29 (.agg ⟨(Z2w x.x.cl x.x.seq)⟩) ?_ (he := fun _ H' => (Zc (vs := (Z2w x.x.cl x.x.seq)) rfl (by kernel_rfl) (by kernel_rfl) (by exact Nat.le_of_ble_eq_true (by kernel_rfl)) (H'.at 6 rfl) (by kernel_rfl)))
  refine hv0 7 S23 30 (pt b2 0) ?_
  refine hv0 8 S23 31 (pt b2 2) ?_
  refine hv0 9 S23 32 (.agg ⟨(hc x.x.h)⟩) ?_ (he := fun _ H' => (Zc (vs := (hc x.x.h)) rfl (by kernel_rfl) (by kernel_rfl) (by exact Nat.le_of_ble_eq_true (by kernel_rfl)) (H'.at 6 rfl) (by kernel_rfl)))
  refine hv0 10 S23 33 (.agg ⟨(Z0R x)⟩) ?_ (he := fun _ H' => (Zc (vs := (Z0R x)) rfl (by kernel_rfl) (by kernel_rfl) (by exact Nat.le_of_ble_eq_true (by kernel_rfl)) (H'.at 6 rfl) (by kernel_rfl)))
  refine Z7n 11 13 rfl rfl (by kernel_rfl) (Zs rfl) (Zs rfl) (fun Kq kq => ?_) (fun Kq kq => ?_)
  ·refine zdq 34 (Z2d w21 x.x x.sa x.sc x.S (Z3S (c := x) (H22.at 2 rfl) hxT.bag) hxT.len) H22 ?_
   intro w25 H26
   have S28 := H26.pk [0, 1, 2, 3, 4, 5, 6, 7]
   refine kq _ _ S28 ?_
   clear kq Kq
   refine Z1D 12 rfl (by kernel_rfl) (by kernel_rfl) (by kernel_rfl) (fun _ _ _ h => h) S28 (Zs rfl) (d := 35) (v := (.agg ⟨(Z1x rp x.x (ZK x.S))⟩)) rfl (fun _ H' => (by kernel_rfl)) ?_
   refine Z09 13 fun Kq kq => ?_
   refine zda (Z0x) H26 ?_
   intro b30 w31 H32
   have S33 := H32.pk [0, 1, 2, 3, 4, 5, 6, 7]
   refine kq _ _ S33 ?_
   clear kq Kq
   refine Z09 14 fun Kq kq => ?_
   refine Z2k (Z1x rp x.x (ZK x.S)) H32 8 ?_
   intro w35 H36
   have S38 := H36.pk [0, 1, 2, 3, 4, 5, 6, 7]
   refine kq _ _ S38 ?_
   clear kq Kq
   refine zhf ?_
   have H39 := H36.pk [0, 1, 2, 3, 4, 5, 6, 7, 8]
   refine ZJ ?_ ⟨b30, rfl, H39⟩
   exact zs
  refine zda (Z0x) H22 ?_
  intro b40 w41 H42
  have S43 := H42.pk [0, 1, 2, 3, 4, 5, 6, 7]
  refine kq _ _ S43 ?_
  clear kq Kq
  refine Z09 11 fun Kq kq => ?_
  refine zdq 34 (Z2d w41 x.x x.sa x.sc x.S (Z3S (c := x) (H42.at 2 rfl) hxT.bag) hxT.len) H42 ?_
  intro w45 H46
  have S48 := H46.pk [0, 1, 2, 3, 4, 5, 6, 7]
  refine kq _ _ S48 ?_
  clear kq Kq
  refine Z1D 12 rfl (by kernel_rfl) (by kernel_rfl) (by kernel_rfl) (fun _ _ _ h => h) S48 (Zs rfl) (d := 35) (v := (.agg ⟨(Z1x rp x.x (ZK x.S))⟩)) rfl (fun _ H' => (by kernel_rfl)) ?_
  refine Z09 14 fun Kq kq => ?_
  refine Z2k (Z1x rp x.x (ZK x.S)) H46 8 ?_
  intro w50 H51
  have S53 := H51.pk [0, 1, 2, 3, 4, 5, 6, 7]
  refine kq _ _ S53 ?_
  clear kq Kq
  refine zhf ?_
  have H54 := H51.pk [0, 1, 2, 3, 4, 5, 6, 7, 8]
  refine ZJ ?_ ⟨b40, rfl, H54⟩
  exact zs
 rintro f55 w56 ⟨ab, v58, H57⟩
 refine ZF 10 _ v58 ?_
 apply Zt
 apply zsl
 refine wv 37 (pt t 0) ?_
 refine wv 38 (pt b2 0) ?_
 refine wv 39 (pt b2 0) ?_
 refine zwN 40 (Z2w x.x.cl x.x.seq) (H57.at 6 rfl) ?_
 refine zwd fun Kq kq => ?_
 refine zdq 41 (ZbA w56 t F Cn rp la lc L (H57.at 0 rfl) (H57.at 1 rfl) (by omega) x.x.cl x.x.seq) H57 ?_
 intro w60 H61
 refine kq _ _ ?_
 clear kq Kq
 refine wv 36 (.tuple #[(.agg ⟨(Z1Q (((ZR L x.x.cl x.x.seq).getD ce0).x) (((ZR L x.x.cl x.x.seq).getD ce0).sa) (((ZR L x.x.cl x.x.seq).getD ce0).S.length) (((ZR L x.x.cl x.x.seq).getD ce0).sc))⟩), (.bool ((ZR L x.x.cl x.x.seq).isSome))]) ?_
 refine wv 42 (.agg ⟨(Z1Q (((ZR L x.x.cl x.x.seq).getD ce0).x) (((ZR L x.x.cl x.x.seq).getD ce0).sa) (((ZR L x.x.cl x.x.seq).getD ce0).S.length) (((ZR L x.x.cl x.x.seq).getD ce0).sc))⟩) ?_
 refine wv 43 (.bool ((ZR L x.x.cl x.x.seq).isSome)) ?_
 refine zwd fun Kq kq => ?_
 refine zda (Zal) H61 ?_
 intro b64 w65 H66
 refine kq _ _ ?_
 clear kq Kq
 refine zwd fun Kq kq => ?_
 refine Z2k (Z1Q (((ZR L x.x.cl x.x.seq).getD ce0).x) (((ZR L x.x.cl x.x.seq).getD ce0).sa) (((ZR L x.x.cl x.x.seq).getD ce0).S.length) (((ZR L x.x.cl x.x.seq).getD ce0).sc)) H66 9 ?_
 intro w68 H69
 refine kq _ _ ?_
 clear kq Kq
 refine wv 12 (.bool ((ZR L x.x.cl x.x.seq).isSome)) ?_
 apply Z1y
 refine wv 44 (.bool ((ZR L x.x.cl x.x.seq).isSome)) ?_
 apply znt
 refine (Zl ((ZR L x.x.cl x.x.seq).isSome)).elim (fun b71 => ?_) (fun b71 => ?_)
 ·refine Z1o _ b71 ?_
  apply Zt
  apply Zt
  refine zqs H69 ?_
  refine qv 45 (pt b64 0) ?_
  refine qv 46 (pt b64 2) ?_
  refine qv 47 (.agg ⟨(hc ((ZR L x.x.cl x.x.seq).getD ce0).x.h)⟩) ?_ (hr := fun _ H' => (Zc (vs := (hc ((ZR L x.x.cl x.x.seq).getD ce0).x.h)) rfl (by kernel_rfl) (by kernel_rfl) (by exact Nat.le_of_ble_eq_true (by kernel_rfl)) (H'.at 9 rfl) (by kernel_rfl)))
  refine qv 48 (pt b2 0) ?_
  refine qv 49 (pt b2 2) ?_
  refine qv 50 (.agg ⟨(hc x.x.h)⟩) ?_ (hr := fun _ H' => (Zc (vs := (hc x.x.h)) rfl (by kernel_rfl) (by kernel_rfl) (by exact Nat.le_of_ble_eq_true (by kernel_rfl)) (H'.at 6 rfl) (by kernel_rfl)))
  refine qv 51 (.bool (!(decide ((((ZR L x.x.cl x.x.seq).getD ce0).x.h) = x.x.h)))) ?_ (hr := fun _ H' => (Z4k (((ZR L x.x.cl x.x.seq).getD ce0).x.h) x.x.h rfl rfl))
  refine qv 52 (.bool (!(decide ((((ZR L x.x.cl x.x.seq).getD ce0).x.h) = x.x.h)))) ?_
  refine (Zl (!(decide ((((ZR L x.x.cl x.x.seq).getD ce0).x.h) = x.x.h)))).elim (fun b72 => ?_) (fun b72 => ?_)
  ·have g73 := Zy b72
   have g74 := of_decide_eq_false g73
   refine Z0k 52 (.bool true) (congrArg Value.bool b72) ?_
   iterate 5 refine qn 7 52 false ?_
   refine qv 58 (.bool true) ?_
   refine Z0S ?_
   intro w77 H78
   apply ztn
   refine Z0P rfl ?_
   apply zsl
   refine wv 59 (.agg ⟨(Z0x)⟩) ?_
   refine zwd fun Kq kq => ?_
   refine Z2k (Z0x) H78 7 ?_
   intro w80 H81
   refine kq _ _ ?_
   clear kq Kq
   refine wv 9 (.int .i64 (5)) ?_
   apply znt
   apply ZA
   apply Zr
   apply Zr
   refine Z9g rfl (Z0i (vs := (Z0x)) rfl (by kernel_rfl) (by kernel_rfl) (by exact Nat.le_of_ble_eq_true (by kernel_rfl)) (H81.at 7 rfl) (by kernel_rfl)) (Z1m (v := (.int .i64 (5))) rfl) ?_
   exact ⟨Z9, 5, la, lc, L, ra, rc, Lb, rfl, (Eq.symm (tk5 (by have q := b11; simpa using q) b71 (by rintro ⟨q1, q2⟩; simp [q1, q2] at b72))), (fun h => absurd h (by decide)), (fun _ => rfl), (.inl ⟨rfl, (fun h => absurd h (by decide)), (fun _ => rfl)⟩), H81.pk [0, 1, 2, 3, 4, 5]⟩
  have g83 := Za b72
  have g84 := of_decide_eq_true g83
  refine Z0k 52 (.bool false) (congrArg Value.bool b72) ?_
  refine qy 7 52 false 53 (.agg ⟨(Z1Q (((ZR L x.x.cl x.x.seq).getD ce0).x) (((ZR L x.x.cl x.x.seq).getD ce0).sa) (((ZR L x.x.cl x.x.seq).getD ce0).S.length) (((ZR L x.x.cl x.x.seq).getD ce0).sc))⟩) ?_ (hr := fun _ H' => (Zc (vs := (Z1Q (((ZR L x.x.cl x.x.seq).getD ce0).x) (((ZR L x.x.cl x.x.seq).getD ce0).sa) (((ZR L x.x.cl x.x.seq).getD ce0).S.length) (((ZR L x.x.cl x.x.seq).getD ce0).sc))) rfl (by kernel_rfl) (by kernel_rfl) (by exact Nat.le_of_ble_eq_true (by kernel_rfl)) (H'.at 9 rfl) (by kernel_rfl)))
  refine Z0B (Z01 7 52 false rfl (by kernel_rfl) rfl (by kernel_rfl)) (d := 54) (v := (.int .u64 (ZK (((ZR L x.x.cl x.x.seq).getD ce0).S)))) rfl (fun _ _ => by kernel_rfl) (fun w' H' => (Z2d w' ((ZR L x.x.cl x.x.seq).getD ce0).x ((ZR L x.x.cl x.x.seq).getD ce0).sa ((ZR L x.x.cl x.x.seq).getD ce0).sc (((ZR L x.x.cl x.x.seq).getD ce0).S) (Z3S (c := ((ZR L x.x.cl x.x.seq).getD ce0)) (H'.at 2 rfl) (hcT _ (Z7l b71)).bag) (hcT _ (Z7l b71)).len).mono fun _ _ h => ⟨h.1, H'.keepU h.2⟩) ?_
  refine qy 7 52 false 55 (.agg ⟨(Z0R x)⟩) ?_ (hr := fun _ H' => (Zc (vs := (Z0R x)) rfl (by kernel_rfl) (by kernel_rfl) (by exact Nat.le_of_ble_eq_true (by kernel_rfl)) (H'.at 6 rfl) (by kernel_rfl)))
  refine Z0B (Z01 7 52 false rfl (by kernel_rfl) rfl (by kernel_rfl)) (d := 56) (v := (.int .u64 (ZK x.S))) rfl (fun _ _ => by kernel_rfl) (fun w' H' => (Z2d w' x.x x.sa x.sc x.S (Z3S (c := x) (H'.at 2 rfl) hxT.bag) hxT.len).mono fun _ _ h => ⟨h.1, H'.keepU h.2⟩) ?_
  refine qy 7 52 false 57 (.bool (!(decide ((ZK (((ZR L x.x.cl x.x.seq).getD ce0).S)) = (ZK x.S))))) ?_
  refine qv 58 (.bool (!(decide ((ZK (((ZR L x.x.cl x.x.seq).getD ce0).S)) = (ZK x.S))))) ?_
  refine Z0S ?_
  intro w87 H88
  apply ztn
  refine (Zl (!(decide ((ZK (((ZR L x.x.cl x.x.seq).getD ce0).S)) = (ZK x.S))))).elim (fun b89 => ?_) (fun b89 => ?_)
  ·have g90 := Zy b89
   have g91 := of_decide_eq_false g90
   refine Z1o _ b89 ?_
   apply zsl
   refine wv 59 (.agg ⟨(Z0x)⟩) ?_
   refine zwd fun Kq kq => ?_
   refine Z2k (Z0x) H88 7 ?_
   intro w95 H96
   refine kq _ _ ?_
   clear kq Kq
   refine wv 9 (.int .i64 (5)) ?_
   apply znt
   apply ZA
   apply Zr
   apply Zr
   refine Z9g rfl (Z0i (vs := (Z0x)) rfl (by kernel_rfl) (by kernel_rfl) (by exact Nat.le_of_ble_eq_true (by kernel_rfl)) (H96.at 7 rfl) (by kernel_rfl)) (Z1m (v := (.int .i64 (5))) rfl) ?_
   exact ⟨Z9, 5, la, lc, L, ra, rc, Lb, rfl, (Eq.symm (tk5 (by have q := b11; simpa using q) b71 (by rintro ⟨q1, q2⟩; simp [q1, q2] at b72 b89))), (fun h => absurd h (by decide)), (fun _ => rfl), (.inl ⟨rfl, (fun h => absurd h (by decide)), (fun _ => rfl)⟩), H96.pk [0, 1, 2, 3, 4, 5]⟩
  have g98 := Za b89
  have g99 := of_decide_eq_true g98
  refine Z18 _ b89 ?_
  apply ZL
  apply ztn
  apply Zt
  refine Z1k H88 [Z0 t 45 (Z2i F Cn rp la L.length lc), (Z0G la L lc), Z0o B, Z6 w (Z0c [Z0 t 45 [.int .i64 F, .int .i64 Cn, .int .i64 rp, .slice la (L).length lc], (Z0G la L lc), Z0o B, Z0 r 98 [.slice ra (Lb).length rc], (Z16 ra Lb rc)]).fp, Z0 b2 53 (Z0R x), Z0 b6 31 (Z0x), Z0 ab 31 (Z1x rp x.x (ZK x.S)), Z0 b64 53 (Z1Q (((ZR L x.x.cl x.x.seq).getD ce0).x) (((ZR L x.x.cl x.x.seq).getD ce0).sa) (((ZR L x.x.cl x.x.seq).getD ce0).S.length) (((ZR L x.x.cl x.x.seq).getD ce0).sc))] [9] 10 rfl (by kernel_rfl) (fun Hx => (Hx.pk [0, 1, 2, 5, 6, 7, 8, 9])) ?_
  intro w102 H103 S104
  refine zkp 0 S104 60 (pt r 0) ?_
  refine zkp 1 S104 61 (pt t 0) ?_
  refine zkp 2 S104 62 (pt t 0) ?_
  refine zkp 3 S104 63 (pt t 2) ?_
  refine zkv 4 S104 64 (.int .i64 (rp)) ?_ (he := fun _ H' => (Z2 rfl (by kernel_rfl) (H'.cell 0 rfl rfl)))
  refine zkv 5 S104 65 (.agg ⟨(Z1x rp x.x (ZK x.S))⟩) ?_ (he := fun _ H' => (Zc (vs := (Z1x rp x.x (ZK x.S))) rfl (by kernel_rfl) (by kernel_rfl) (by exact Nat.le_of_ble_eq_true (by kernel_rfl)) (H'.at 6 rfl) (by kernel_rfl)))
  refine Z3p 6 fun Kq kq => ?_
  refine zdc 66 (Z2G w102 (⟨rp, x.x.cl, x.x.seq, x.x.h, ZK x.S, 0, 0⟩ : Z5) ⟨by show rp ≤ _; omega, hxx.1.1, hxx.1.2.1, htl.1, htl.2⟩) ?_
  rintro _ w106 ⟨u107, rfl, k108, p109, q110⟩
  have H111 := H103.addU p109 k108 q110
  obtain ⟨a112, c113, rfl⟩ := Z1 (H111.at 10 rfl)
  refine ⟨_, rfl, ?_⟩
  have hal := Z8F (⟨rp, x.x.cl, x.x.seq, x.x.h, ZK x.S, 0, 0⟩ : Z5)
  have S114 := H111.pk [0, 1, 2, 5, 6, 7, 8, 9]
  refine kq _ _ S114 ?_
  clear kq Kq
  refine Z3p 7 fun Kq kq => ?_
  refine zdc 67 (Z26 w106 r ra rc Lb (.slice a112 ((Z1H (⟨rp, x.x.cl, x.x.seq, x.x.h, ZK x.S, 0, 0⟩ : Z5)).length) c113) (Z1H (⟨rp, x.x.cl, x.x.seq, x.x.h, ZK x.S, 0, 0⟩ : Z5)) (H111.fn [3, 4, 10]) (by omega) hnb rp) ?_
  rintro _ w116 ⟨a118, c119, rfl, T117⟩
  have H120 := H111.tl [Z0 r 98 (Z2v a118 ((Zk Lb (⟨rp, (Z1H (⟨rp, x.x.cl, x.x.seq, x.x.h, ZK x.S, 0, 0⟩ : Z5))⟩ : Signed)).length) c119), (Z16 a118 (Zk Lb (⟨rp, (Z1H (⟨rp, x.x.cl, x.x.seq, x.x.h, ZK x.S, 0, 0⟩ : Z5))⟩ : Signed)) c119), (Z8T a112 (Z1H (⟨rp, x.x.cl, x.x.seq, x.x.h, ZK x.S, 0, 0⟩ : Z5)) c113)] [3, 4, 10] [0, 1, 2, 5, 6, 7, 8, 9] T117 [3, 4, 5, 0, 1, 6, 7, 8, 9, 10, 2]
  refine ⟨_, rfl, ?_⟩
  have S121 := H120.pk [0, 1, 2, 5, 6, 7, 8, 9]
  refine kq _ _ S121 ?_
  clear kq Kq
  refine zkp 8 S121 68 (pt ab 36) ?_
  refine Z30 9 (Sat w [Z0 t 45 (Z2i F Cn rp la L.length lc), (Z0G la L lc), Z0o B, Z6 w (Z0c [Z0 t 45 [.int .i64 F, .int .i64 Cn, .int .i64 rp, .slice la (L).length lc], (Z0G la L lc), Z0o B, Z0 r 98 [.slice ra (Lb).length rc], (Z16 ra Lb rc)]).fp, Z0 b2 53 (Z0R x), Z0 b6 31 (Z0x), Z0 b64 53 (Z1Q (((ZR L x.x.cl x.x.seq).getD ce0).x) (((ZR L x.x.cl x.x.seq).getD ce0).sa) (((ZR L x.x.cl x.x.seq).getD ce0).S.length) (((ZR L x.x.cl x.x.seq).getD ce0).sc))]) rfl (by kernel_rfl) (Zs rfl) rfl (fun Kq kq => ?_)
  refine zds (Z2w rp (Zu (Zk Lb (⟨rp, (Z1H (⟨rp, x.x.cl, x.x.seq, x.x.h, ZK x.S, 0, 0⟩ : Z5))⟩ : Signed)) (⟨rp, (Z1H (⟨rp, x.x.cl, x.x.seq, x.x.h, ZK x.S, 0, 0⟩ : Z5))⟩ : Signed))) (Z2F rp x.x (ZK x.S) (Zu (Zk Lb (⟨rp, (Z1H (⟨rp, x.x.cl, x.x.seq, x.x.h, ZK x.S, 0, 0⟩ : Z5))⟩ : Signed)) (⟨rp, (Z1H (⟨rp, x.x.cl, x.x.seq, x.x.h, ZK x.S, 0, 0⟩ : Z5))⟩ : Signed))) H120 8 ?_
  intro w123 H124
  have S126 := H124.pk [0, 1, 2, 5, 6, 7, 9]
  refine kq _ _ S126 ?_
  clear kq Kq
  refine zhf ?_
  apply ztn
  apply zsl
  refine zwN 69 (Z2F rp x.x (ZK x.S) (Zu (Zk Lb (⟨rp, (Z1H (⟨rp, x.x.cl, x.x.seq, x.x.h, ZK x.S, 0, 0⟩ : Z5))⟩ : Signed)) (⟨rp, (Z1H (⟨rp, x.x.cl, x.x.seq, x.x.h, ZK x.S, 0, 0⟩ : Z5))⟩ : Signed))) (H124.at 8 rfl) ?_
  refine zwd fun Kq kq => ?_
  refine Z2k (Z2F rp x.x (ZK x.S) (Zu (Zk Lb (⟨rp, (Z1H (⟨rp, x.x.cl, x.x.seq, x.x.h, ZK x.S, 0, 0⟩ : Z5))⟩ : Signed)) (⟨rp, (Z1H (⟨rp, x.x.cl, x.x.seq, x.x.h, ZK x.S, 0, 0⟩ : Z5))⟩ : Signed))) H124 7 ?_
  intro w128 H129
  refine kq _ _ ?_
  clear kq Kq
  refine wv 9 (.int .i64 (0)) ?_
  apply znt
  apply ZA
  apply Zr
  refine Z9g rfl (Z0i (vs := (Z2F rp x.x (ZK x.S) (Zu (Zk Lb (⟨rp, (Z1H (⟨rp, x.x.cl, x.x.seq, x.x.h, ZK x.S, 0, 0⟩ : Z5))⟩ : Signed)) (⟨rp, (Z1H (⟨rp, x.x.cl, x.x.seq, x.x.h, ZK x.S, 0, 0⟩ : Z5))⟩ : Signed)))) rfl (by kernel_rfl) (by kernel_rfl) (by exact Nat.le_of_ble_eq_true (by kernel_rfl)) (H129.at 7 rfl) (by kernel_rfl)) (Z1m (v := (.int .i64 (0))) rfl) ?_
  exact ⟨(⟨rp, x.x.cl, x.x.seq, x.x.h, ZK x.S, rp, Zu (Zk Lb (⟨rp, (Z1H (⟨rp, x.x.cl, x.x.seq, x.x.h, ZK x.S, 0, 0⟩ : Z5))⟩ : Signed)) (⟨rp, (Z1H (⟨rp, x.x.cl, x.x.seq, x.x.h, ZK x.S, 0, 0⟩ : Z5))⟩ : Signed)⟩ : Z5), 0, la, lc, L, a118, c119, (Zk Lb (⟨rp, (Z1H (⟨rp, x.x.cl, x.x.seq, x.x.h, ZK x.S, 0, 0⟩ : Z5))⟩ : Signed)), rfl, (Eq.symm (tk0 (by have q := b11; simpa using q) b71 (by have q := b72; simpa using q) (by have q := b89; simpa using q))), (fun _ => ⟨rfl, rfl⟩), (fun h => absurd rfl h), (.inl ⟨rfl, (fun _ => b71), (fun h => absurd rfl h)⟩), H129.pk [0, 1, 2, 3, 4, 5]⟩
 refine Z18 _ b71 ?_
 apply ZL
 apply ztn
 apply Zt
 apply zsl
 refine zwN 70 (Z0R x) (H69.at 6 rfl) ?_
 refine zwd fun Kq kq => ?_
 refine zdq 71 (Z2d w68 x.x x.sa x.sc x.S (Z3S (c := x) (H69.at 2 rfl) hxT.bag) hxT.len) H69 ?_
 intro w132 H133
 refine kq _ _ ?_
 clear kq Kq
 refine wv 72 (.int .u64 (floor)) ?_
 refine wv 73 (.bool (decide ((ZK x.S) ≤ floor))) ?_
 apply znt
 refine (Zl (decide ((ZK x.S) ≤ floor))).elim (fun b135 => ?_) (fun b135 => ?_)
 ·have g136 := of_decide_eq_true b135
  refine Z1o _ b135 ?_
  apply zsl
  refine wv 74 (.agg ⟨(Z0x)⟩) ?_
  refine zwd fun Kq kq => ?_
  refine Z2k (Z0x) H133 7 ?_
  intro w139 H140
  refine kq _ _ ?_
  clear kq Kq
  refine wv 9 (.int .i64 (4)) ?_
  apply znt
  apply ZA
  apply Zr
  refine Z9g rfl (Z0i (vs := (Z0x)) rfl (by kernel_rfl) (by kernel_rfl) (by exact Nat.le_of_ble_eq_true (by kernel_rfl)) (H140.at 7 rfl) (by kernel_rfl)) (Z1m (v := (.int .i64 (4))) rfl) ?_
  exact ⟨Z9, 4, la, lc, L, ra, rc, Lb, rfl, (Eq.symm (tk4 (by have q := b11; simpa using q) b71 (of_decide_eq_true b135))), (fun h => absurd h (by decide)), (fun _ => rfl), (.inl ⟨rfl, (fun h => absurd h (by decide)), (fun _ => rfl)⟩), H140.pk [0, 1, 2, 3, 4, 5]⟩
 have g142 := of_decide_eq_false b135
 refine Z18 _ b135 ?_
 apply ZL
 apply ztn
 apply Zt
 apply zsl
 refine wv 75 (pt t 0) ?_
 refine wv 76 (pt t 0) ?_
 refine wv 77 (pt t 3) ?_
 refine zw1 78 (.slice la L.length lc) (H133.cell 0 rfl rfl) ?_
 refine wv 79 (.int .i64 ((L.length : Int))) ?_
 refine wv 80 (.bool (decide ((L.length : Int) ≥ 64))) ?_
 apply znt
 refine (Zl (decide ((L.length : Int) ≥ 64))).elim (fun b144 => ?_) (fun b144 => ?_)
 ·have g145 := of_decide_eq_true b144
  refine Z1o _ b144 ?_
  apply zsl
  refine wv 81 (.agg ⟨(Z0x)⟩) ?_
  refine zwd fun Kq kq => ?_
  refine Z2k (Z0x) H133 7 ?_
  intro w148 H149
  refine kq _ _ ?_
  clear kq Kq
  refine wv 9 (.int .i64 (7)) ?_
  apply znt
  apply ZA
  apply Zr
  refine Z9g rfl (Z0i (vs := (Z0x)) rfl (by kernel_rfl) (by kernel_rfl) (by exact Nat.le_of_ble_eq_true (by kernel_rfl)) (H149.at 7 rfl) (by kernel_rfl)) (Z1m (v := (.int .i64 (7))) rfl) ?_
  exact ⟨Z9, 7, la, lc, L, ra, rc, Lb, rfl, (Eq.symm (tk7 (by have q := b11; simpa using q) b71 (of_decide_eq_false b135) (by have q := of_decide_eq_true b144; omega))), (fun h => absurd h (by decide)), (fun _ => rfl), (.inl ⟨rfl, (fun h => absurd h (by decide)), (fun _ => rfl)⟩), H149.pk [0, 1, 2, 3, 4, 5]⟩
 have g151 := of_decide_eq_false b144
 refine Z18 _ b144 ?_
 apply ZL
 apply ztn
 apply zsl
 refine wv 82 (pt t 0) ?_
 refine wv 83 (pt t 0) ?_
 refine wv 84 (pt t 3) ?_
 refine zw1 85 (.slice la L.length lc) (H133.cell 0 rfl rfl) ?_
 refine wv 86 (.int .i64 ((L.length : Int))) ?_
 refine wv 13 (.int .i64 ((L.length : Int))) ?_
 apply znt
 refine Z0X ([13] ++ List.range' 87 20) (fun G_ W_ => ∃ (k : Nat), G_ 13 = (.int .i64 ((k : Int))) ∧ (Z7U L x k) ∧ Sat w [Z0 t 45 (Z2i F Cn rp la L.length lc), (Z0G la L lc), Z0o B, Z0 r 98 (Z2v ra Lb.length rc), (Z16 ra Lb rc), Z6 w (Z0c [Z0 t 45 [.int .i64 F, .int .i64 Cn, .int .i64 rp, .slice la (L).length lc], (Z0G la L lc), Z0o B, Z0 r 98 [.slice ra (Lb).length rc], (Z16 ra Lb rc)]).fp, Z0 b2 53 (Z0R x), Z0 b6 31 (Z0x), Z0 ab 31 (Z1x rp x.x (ZK x.S)), Z0 b64 53 (Z1Q (((ZR L x.x.cl x.x.seq).getD ce0).x) (((ZR L x.x.cl x.x.seq).getD ce0).sa) (((ZR L x.x.cl x.x.seq).getD ce0).S.length) (((ZR L x.x.cl x.x.seq).getD ce0).sc))] W_) ?_ ?_
 ·apply ZG
  refine Z02 ([13] ++ List.range' 87 20) (fun F_ W_ m_ => ∃ (k : Nat), F_ 13 = (.int .i64 ((k : Int))) ∧ (k ≤ L.length) ∧ (∀ j, k ≤ j → ∀ y, L[j]? = some y → Z3J x y = true) ∧ Sat w [Z0 t 45 (Z2i F Cn rp la L.length lc), (Z0G la L lc), Z0o B, Z0 r 98 (Z2v ra Lb.length rc), (Z16 ra Lb rc), Z6 w (Z0c [Z0 t 45 [.int .i64 F, .int .i64 Cn, .int .i64 rp, .slice la (L).length lc], (Z0G la L lc), Z0o B, Z0 r 98 [.slice ra (Lb).length rc], (Z16 ra Lb rc)]).fp, Z0 b2 53 (Z0R x), Z0 b6 31 (Z0x), Z0 ab 31 (Z1x rp x.x (ZK x.S)), Z0 b64 53 (Z1Q (((ZR L x.x.cl x.x.seq).getD ce0).x) (((ZR L x.x.cl x.x.seq).getD ce0).sa) (((ZR L x.x.cl x.x.seq).getD ce0).S.length) (((ZR L x.x.cl x.x.seq).getD ce0).sc))] W_ ∧ m_ = k + 1) _ ⟨L.length, (show ((.int .i64 ((L.length : Int))) : Value) = _ by first | rfl | go_num), (Nat.le_refl _), ZbJ, H133, rfl⟩ ?_
  rintro g154 w155 _ ⟨k, v157, hk, hup, H156, rfl⟩
  refine ZF 13 _ v157 ?_
  apply Zt
  apply Zt
  refine zqs H156 ?_
  refine qv 87 (.int .i64 ((k : Int))) ?_
  refine qv 88 (.bool (decide ((k : Int) > 0))) ?_
  refine qv 89 (.bool (decide ((k : Int) > 0))) ?_
  refine (Zl (decide ((k : Int) > 0))).elim (fun b159 => ?_) (fun b159 => ?_)
  ·have g160 := of_decide_eq_true b159
   refine Z0k 89 (.bool true) (congrArg Value.bool b159) ?_
   refine qy 2 89 true 90 (pt b2 0) ?_
   refine qy 2 89 true 91 (pt b2 0) ?_
   refine qy 2 89 true 92 (.agg ⟨(Z2w x.x.cl x.x.seq)⟩) ?_ (hr := fun _ H' => (Zc (vs := (Z2w x.x.cl x.x.seq)) rfl (by kernel_rfl) (by kernel_rfl) (by exact Nat.le_of_ble_eq_true (by kernel_rfl)) (H'.at 6 rfl) (by kernel_rfl)))
   refine qy 2 89 true 93 (pt t 0) ?_
   refine qy 2 89 true 94 (pt t 0) ?_
   refine qy 2 89 true 95 (pt t 3) ?_
   refine qy 2 89 true 96 (.slice la L.length lc) ?_ (hr := fun _ H' => (Z2 rfl (by kernel_rfl) (H'.cell 0 rfl rfl)))
   refine qy 2 89 true 97 (.int .i64 ((k : Int))) ?_
   refine qy 2 89 true 98 (.int .i64 ((k : Int) - 1)) ?_ (hr := fun _ H' => (Z0I (z := (k : Int) - 1) (by kernel_rfl) (IntWalk.i64_in _ (by omega))))
   obtain ⟨g162, c163, e164⟩ := Z1n (H156.at 1 rfl) (by omega)
   obtain ⟨x165, h166⟩ := Z2j (show ((k : Int) - 1).toNat < L.length by omega)
   refine qy 2 89 true 99 (.pointer (some ⟨g162, 0 + ((k : Int) - 1).toNat * 38, none⟩)) ?_ (hr := fun _ H' => (Z0t (E := 53) (by kernel_rfl) (by kernel_rfl) (Nat.le_of_ble_eq_true rfl) rfl e164 rfl (by omega) (by omega)))
   refine qy 2 89 true 100 (.pointer (some ⟨g162, 0 + ((k : Int) - 1).toNat * 38, none⟩)) ?_
   refine qy 2 89 true 101 (.pointer (some ⟨g162, 0 + ((k : Int) - 1).toNat * 38, none⟩)) ?_
   refine qy 2 89 true 102 (.agg ⟨(Z2w x165.x.cl x165.x.seq)⟩) ?_ (hr := fun _ H' => (Z0f (vs := (Z2w x165.x.cl x165.x.seq)) rfl (by kernel_rfl) (by kernel_rfl) (Nat.le_of_ble_eq_true (by kernel_rfl)) (Z2a (H'.at 1 rfl) e164 ZZ h166 0 (show 0 + ((k : Int) - 1).toNat * 38 = ((k : Int) - 1).toNat * 38 + 0 by omega) (by kernel_rfl) (by kernel_rfl))))
   refine Z0B (Z01 2 89 true rfl (by kernel_rfl) rfl (by kernel_rfl)) (d := 103) (v := (.bool (decide (x.x.cl < x165.x.cl) || (decide (x.x.cl = x165.x.cl) && decide (x.x.seq < x165.x.seq))))) rfl (fun _ _ => by kernel_rfl) (fun w' H' => (Z7F w' x.x.cl x.x.seq x165.x.cl x165.x.seq).mono fun _ _ h => ⟨h.1, H'.keepU h.2⟩) ?_
   refine qv 104 (.bool (decide (x.x.cl < x165.x.cl) || (decide (x.x.cl = x165.x.cl) && decide (x.x.seq < x165.x.seq)))) ?_
   refine Z0S ?_
   intro w167 H168
   apply ztn
   refine (Zl (decide (x.x.cl < x165.x.cl) || (decide (x.x.cl = x165.x.cl) && decide (x.x.seq < x165.x.seq)))).elim (fun b169 => ?_) (fun b169 => ?_)
   ·refine Z1o _ b169 ?_
    apply ZL
    apply ztn
    apply ZG
    apply ZU
    refine wv 105 (.int .i64 ((k : Int))) ?_
    refine zwi 106 ((k : Int) - 1) ?_
    refine wv 13 (.int .i64 ((k : Int) - 1)) ?_
    apply ZQ
    apply Zq
    refine Zw ?_ _ ⟨(k - 1), (show ((.int .i64 ((k : Int) - 1)) : Value) = _ by first | rfl | go_num), (by omega), (ZcF hup (show L[k - 1]? = some x165 from (show ((k : Int) - 1).toNat = k - 1 by omega) ▸ h166) b169), H168, rfl⟩ (by omega)
    exact zs
   refine Z18 _ b169 ?_
   apply zxb
   have hpa : Z7U L x k := ⟨hk, hup, .inr ⟨x165, (show L[k - 1]? = some x165 from (show ((k : Int) - 1).toNat = k - 1 by omega) ▸ h166), b169⟩⟩
   refine ZJ ?_ ⟨k, rfl, hpa, H168⟩
   exact zs
  have g170 := of_decide_eq_false b159
  refine Z0k 89 (.bool false) (congrArg Value.bool b159) ?_
  iterate 14 refine qn 2 89 true ?_
  refine qv 104 (.bool false) ?_
  refine Z0S ?_
  intro w172 H173
  apply ztn
  refine Z3m rfl ?_
  apply zxb
  have hpa : Z7U L x k := ⟨hk, hup, .inl (by omega)⟩
  refine ZJ ?_ ⟨k, rfl, hpa, H173⟩
  exact zs
 rintro f174 w175 ⟨k, v177, hpa, H176⟩
 refine ZF 13 _ v177 ?_
 apply Zt
 have hk := hpa.le
 refine Z1k H176 [Z0 t 45 (Z2i F Cn rp la L.length lc), (Z0G la L lc), Z0o B, Z0 r 98 (Z2v ra Lb.length rc), (Z16 ra Lb rc), Z6 w (Z0c [Z0 t 45 [.int .i64 F, .int .i64 Cn, .int .i64 rp, .slice la (L).length lc], (Z0G la L lc), Z0o B, Z0 r 98 [.slice ra (Lb).length rc], (Z16 ra Lb rc)]).fp, Z0 b2 53 (Z0R x), Z0 b6 31 (Z0x), Z0 ab 31 (Z1x rp x.x (ZK x.S)), Z0 b64 53 (Z1Q (((ZR L x.x.cl x.x.seq).getD ce0).x) (((ZR L x.x.cl x.x.seq).getD ce0).sa) (((ZR L x.x.cl x.x.seq).getD ce0).S.length) (((ZR L x.x.cl x.x.seq).getD ce0).sc))] [20] 21 rfl (by kernel_rfl) (fun Hx => (Hx.pk [0, 1, 2, 3, 4, 5, 6, 7, 8, 9])) ?_
 intro w178 H179 S180
 refine zkp 0 S180 107 (pt t 0) ?_
 refine zkp 1 S180 108 (pt t 0) ?_
 refine zkp 2 S180 109 (pt t 0) ?_
 refine zkp 3 S180 110 (pt t 3) ?_
 refine zkv 4 S180 111 (.slice la L.length lc) ?_ (he := fun _ H' => (Z2 rfl (by kernel_rfl) (H'.cell 0 rfl rfl)))
 refine zkp 5 S180 112 (.int .i64 ((k : Int))) ?_
 refine zkp 6 S180 113 (.int .i64 ((k : Int))) ?_
 refine zkp 7 S180 114 (.slice la k k) ?_ (he := fun _ => (Zb8 (E := 53) (q := k) (by kernel_rfl) (by kernel_rfl) rfl rfl rfl rfl rfl (by omega)))
 refine zkv 8 S180 115 (.agg ⟨(Z0R x)⟩) ?_ (he := fun _ H' => (Zc (vs := (Z0R x)) rfl (by kernel_rfl) (by kernel_rfl) (by exact Nat.le_of_ble_eq_true (by kernel_rfl)) (H'.at 6 rfl) (by kernel_rfl)))
 refine zkp 10 S180 117 (pt t 0) ?_
 refine zkp 11 S180 118 (pt t 0) ?_
 refine zkp 12 S180 119 (pt t 3) ?_
 refine zkv 13 S180 120 (.slice la L.length lc) ?_ (he := fun _ H' => (Z2 rfl (by kernel_rfl) (H'.cell 0 rfl rfl)))
 refine zkp 14 S180 121 (.int .i64 ((k : Int))) ?_
 refine zkp 15 S180 122 (.slice (if lc = k then la else la.map (·.add (k * 38))) (L.length - k) (lc - k)) ?_ (he := fun _ => (Z3B (E := 53) (q := k) (by kernel_rfl) (by kernel_rfl) rfl rfl rfl (by omega)))
 refine Z3p 9 fun Kq kq => ?_
 refine Z3o 53 38 96 (.agg ⟨(Zal)⟩) [(0, (.agg ⟨(Z0R x)⟩))] (Z0R x) H179 ?_
 intro b182 w183 H184
 have H185 := H184.ct 10 rfl (ZH 53 38 (.slice (some ⟨b182, 0, none⟩) 1 1) 1 ([x].flatMap Z0h)) (by rw [(show ((Z0R x) : List Value) = [x].flatMap Z0h by kernel_rfl)])
 have S186 := H185.pk [0, 1, 2, 3, 4, 5, 6, 7, 8, 9]
 refine kq _ _ S186 ?_
 clear kq Kq
 refine Z3p 16 fun Kq kq => ?_
 refine Z2T (T := 32) (e := 53) (size := 38) (bytes := 96) rfl H185 (by kernel_rfl) ZZ Z3r 10 rfl (ListAt.dropG (k := k) (ListAt.row (enc := Z0h) (sz := 38) ZZ (by decide) (H185.at 1 rfl)) (by omega)) rfl rfl (by first | omega | (simp only [List.length_append, List.length_drop, List.length_cons, List.length_nil]; omega)) (by first | omega | (simp only [List.length_append, List.length_drop, List.length_cons, List.length_nil]; omega)) ?_
 intro v188 w189 (H191 : Sat w [Z0 t 45 (Z2i F Cn rp la L.length lc), (Z0G la L lc), Z0o B, Z0 r 98 (Z2v ra Lb.length rc), (Z16 ra Lb rc), Z6 w (Z0c [Z0 t 45 [.int .i64 F, .int .i64 Cn, .int .i64 rp, .slice la (L).length lc], (Z0G la L lc), Z0o B, Z0 r 98 [.slice ra (Lb).length rc], (Z16 ra Lb rc)]).fp, Z0 b2 53 (Z0R x), Z0 b6 31 (Z0x), Z0 ab 31 (Z1x rp x.x (ZK x.S)), Z0 b64 53 (Z1Q (((ZR L x.x.cl x.x.seq).getD ce0).x) (((ZR L x.x.cl x.x.seq).getD ce0).sa) (((ZR L x.x.cl x.x.seq).getD ce0).S.length) (((ZR L x.x.cl x.x.seq).getD ce0).sc)), ZH 53 38 v188 (([x]).length + (L.drop k).length) (([x]).flatMap Z0h ++ (L.drop k).flatMap Z0h)] w189)
 have H190 : Sat w [Z0 t 45 (Z2i F Cn rp la L.length lc), (Z0G la L lc), Z0o B, Z0 r 98 (Z2v ra Lb.length rc), (Z16 ra Lb rc), Z6 w (Z0c [Z0 t 45 [.int .i64 F, .int .i64 Cn, .int .i64 rp, .slice la (L).length lc], (Z0G la L lc), Z0o B, Z0 r 98 [.slice ra (Lb).length rc], (Z16 ra Lb rc)]).fp, Z0 b2 53 (Z0R x), Z0 b6 31 (Z0x), Z0 ab 31 (Z1x rp x.x (ZK x.S)), Z0 b64 53 (Z1Q (((ZR L x.x.cl x.x.seq).getD ce0).x) (((ZR L x.x.cl x.x.seq).getD ce0).sa) (((ZR L x.x.cl x.x.seq).getD ce0).S.length) (((ZR L x.x.cl x.x.seq).getD ce0).sc)), ZH 53 38 v188 ((([x]) ++ (L.drop k)).length) ((([x]) ++ (L.drop k)).flatMap Z0h)] w189 := H191.cast (by simp only [List.length_append, List.flatMap_append])
 obtain ⟨a192, c193, rfl⟩ := Z1 (H190.at 10 rfl)
 have S194 := H190.pk [0, 1, 2, 3, 4, 5, 6, 7, 8, 9]
 refine kq _ _ S194 ?_
 clear kq Kq
 refine Z3p 17 fun Kq kq => ?_
 refine Z7e (T := 32) (e := 53) (size := 38) (bytes := 96) rfl H190 (by kernel_rfl) ZZ Z3r (ListAt.take3 (ListAt.row (enc := Z0h) (sz := 38) ZZ (by decide) (H190.at 1 rfl)) (by omega) (by decide) ZZ) (by rw [List.length_take]; omega) (ListAt.row (enc := Z0h) (sz := 38) ZZ (by decide) (H190.at 10 rfl)) (by simp only [List.length_append, List.length_cons, List.length_nil, List.length_drop, List.length_take]; omega) rfl rfl (by simp only [List.length_append, List.length_cons, List.length_nil, List.length_drop, List.length_take]; omega) (by simp only [List.length_append, List.length_cons, List.length_nil, List.length_drop, List.length_take]; omega) ?_
 intro v196 w197 H198
 obtain ⟨a199, c200, rfl⟩ := Z1 (H198.at 11 rfl)
 have S201 := H198.pk [0, 1, 2, 3, 4, 5, 6, 7, 8, 9]
 refine kq _ _ S201 ?_
 clear kq Kq
 refine zkp 18 S201 125 (pt t 0) ?_
 refine zkp 19 S201 126 (pt t 3) ?_
 refine Z30 20 (Sat w [(Z0G la L lc), Z0o B, Z0 r 98 (Z2v ra Lb.length rc), (Z16 ra Lb rc), Z6 w (Z0c [Z0 t 45 [.int .i64 F, .int .i64 Cn, .int .i64 rp, .slice la (L).length lc], (Z0G la L lc), Z0o B, Z0 r 98 [.slice ra (Lb).length rc], (Z16 ra Lb rc)]).fp, Z0 b2 53 (Z0R x), Z0 b6 31 (Z0x), Z0 ab 31 (Z1x rp x.x (ZK x.S)), Z0 b64 53 (Z1Q (((ZR L x.x.cl x.x.seq).getD ce0).x) (((ZR L x.x.cl x.x.seq).getD ce0).sa) (((ZR L x.x.cl x.x.seq).getD ce0).S.length) (((ZR L x.x.cl x.x.seq).getD ce0).sc))]) rfl (by kernel_rfl) (Zs rfl) rfl (fun Kq kq => ?_)
 refine zds (Z2v a199 (((L.take k) ++ (([x]) ++ (L.drop k))).length) c200) (Z2i F Cn rp a199 (((L.take k) ++ (([x]) ++ (L.drop k))).length) c200) H198 0 ?_
 intro w203 H204
 have S206 := H204.pk [1, 2, 3, 4, 5, 6, 7, 8, 9]
 refine kq _ _ S206 ?_
 clear kq Kq
 refine zhf ?_
 apply ztn
 apply Zt
 refine Z1k H204 [Z0 t 45 (Z2i F Cn rp a199 (((L.take k) ++ (([x]) ++ (L.drop k))).length) c200), (Z0G la L lc), Z0o B, Z6 w (Z0c [Z0 t 45 [.int .i64 F, .int .i64 Cn, .int .i64 rp, .slice la (L).length lc], (Z0G la L lc), Z0o B, Z0 r 98 [.slice ra (Lb).length rc], (Z16 ra Lb rc)]).fp, Z0 b2 53 (Z0R x), Z0 b6 31 (Z0x), Z0 ab 31 (Z1x rp x.x (ZK x.S)), Z0 b64 53 (Z1Q (((ZR L x.x.cl x.x.seq).getD ce0).x) (((ZR L x.x.cl x.x.seq).getD ce0).sa) (((ZR L x.x.cl x.x.seq).getD ce0).S.length) (((ZR L x.x.cl x.x.seq).getD ce0).sc)), (Z0G a192 (([x]) ++ (L.drop k)) c193), (Z0G a199 ((L.take k) ++ (([x]) ++ (L.drop k))) c200)] [9] 10 rfl (by kernel_rfl) (fun Hx => (Hx.pk [0, 1, 2, 5, 6, 7, 8, 9, 10, 11])) ?_
 intro w207 H208 S209
 refine zkp 0 S209 127 (pt r 0) ?_
 refine zkp 1 S209 128 (pt t 0) ?_
 refine zkp 2 S209 129 (pt t 0) ?_
 refine zkp 3 S209 130 (pt t 2) ?_
 refine zkv 4 S209 131 (.int .i64 (rp)) ?_ (he := fun _ H' => (Z2 rfl (by kernel_rfl) (H'.cell 0 rfl rfl)))
 refine zkv 5 S209 132 (.agg ⟨(Z1x rp x.x (ZK x.S))⟩) ?_ (he := fun _ H' => (Zc (vs := (Z1x rp x.x (ZK x.S))) rfl (by kernel_rfl) (by kernel_rfl) (by exact Nat.le_of_ble_eq_true (by kernel_rfl)) (H'.at 6 rfl) (by kernel_rfl)))
 refine Z3p 6 fun Kq kq => ?_
 refine zdc 133 (Z2G w207 (⟨rp, x.x.cl, x.x.seq, x.x.h, ZK x.S, 0, 0⟩ : Z5) ⟨by show rp ≤ _; omega, hxx.1.1, hxx.1.2.1, htl.1, htl.2⟩) ?_
 rintro _ w211 ⟨u212, rfl, k213, p214, q215⟩
 have H216 := H208.addU p214 k213 q215
 obtain ⟨a217, c218, rfl⟩ := Z1 (H216.at 12 rfl)
 refine ⟨_, rfl, ?_⟩
 have hal := Z8F (⟨rp, x.x.cl, x.x.seq, x.x.h, ZK x.S, 0, 0⟩ : Z5)
 have S219 := H216.pk [0, 1, 2, 5, 6, 7, 8, 9, 10, 11]
 refine kq _ _ S219 ?_
 clear kq Kq
 refine Z3p 7 fun Kq kq => ?_
 refine zdc 134 (Z26 w211 r ra rc Lb (.slice a217 ((Z1H (⟨rp, x.x.cl, x.x.seq, x.x.h, ZK x.S, 0, 0⟩ : Z5)).length) c218) (Z1H (⟨rp, x.x.cl, x.x.seq, x.x.h, ZK x.S, 0, 0⟩ : Z5)) (H216.fn [3, 4, 12]) (by omega) hnb rp) ?_
 rintro _ w221 ⟨a223, c224, rfl, T222⟩
 have H225 := H216.tl [Z0 r 98 (Z2v a223 ((Zk Lb (⟨rp, (Z1H (⟨rp, x.x.cl, x.x.seq, x.x.h, ZK x.S, 0, 0⟩ : Z5))⟩ : Signed)).length) c224), (Z16 a223 (Zk Lb (⟨rp, (Z1H (⟨rp, x.x.cl, x.x.seq, x.x.h, ZK x.S, 0, 0⟩ : Z5))⟩ : Signed)) c224), (Z8T a217 (Z1H (⟨rp, x.x.cl, x.x.seq, x.x.h, ZK x.S, 0, 0⟩ : Z5)) c218)] [3, 4, 12] [0, 1, 2, 5, 6, 7, 8, 9, 10, 11] T222 [3, 4, 5, 0, 1, 6, 7, 8, 9, 10, 11, 12, 2]
 refine ⟨_, rfl, ?_⟩
 have S226 := H225.pk [0, 1, 2, 5, 6, 7, 8, 9, 10, 11]
 refine kq _ _ S226 ?_
 clear kq Kq
 refine zkp 8 S226 135 (pt ab 36) ?_
 refine Z30 9 (Sat w [Z0 t 45 (Z2i F Cn rp a199 (((L.take k) ++ (([x]) ++ (L.drop k))).length) c200), (Z0G la L lc), Z0o B, Z6 w (Z0c [Z0 t 45 [.int .i64 F, .int .i64 Cn, .int .i64 rp, .slice la (L).length lc], (Z0G la L lc), Z0o B, Z0 r 98 [.slice ra (Lb).length rc], (Z16 ra Lb rc)]).fp, Z0 b2 53 (Z0R x), Z0 b6 31 (Z0x), Z0 b64 53 (Z1Q (((ZR L x.x.cl x.x.seq).getD ce0).x) (((ZR L x.x.cl x.x.seq).getD ce0).sa) (((ZR L x.x.cl x.x.seq).getD ce0).S.length) (((ZR L x.x.cl x.x.seq).getD ce0).sc)), (Z0G a192 (([x]) ++ (L.drop k)) c193), (Z0G a199 ((L.take k) ++ (([x]) ++ (L.drop k))) c200)]) rfl (by kernel_rfl) (Zs rfl) rfl (fun Kq kq => ?_)
 refine zds (Z2w rp (Zu (Zk Lb (⟨rp, (Z1H (⟨rp, x.x.cl, x.x.seq, x.x.h, ZK x.S, 0, 0⟩ : Z5))⟩ : Signed)) (⟨rp, (Z1H (⟨rp, x.x.cl, x.x.seq, x.x.h, ZK x.S, 0, 0⟩ : Z5))⟩ : Signed))) (Z2F rp x.x (ZK x.S) (Zu (Zk Lb (⟨rp, (Z1H (⟨rp, x.x.cl, x.x.seq, x.x.h, ZK x.S, 0, 0⟩ : Z5))⟩ : Signed)) (⟨rp, (Z1H (⟨rp, x.x.cl, x.x.seq, x.x.h, ZK x.S, 0, 0⟩ : Z5))⟩ : Signed))) H225 8 ?_
 intro w228 H229
 have S231 := H229.pk [0, 1, 2, 5, 6, 7, 9, 10, 11]
 refine kq _ _ S231 ?_
 clear kq Kq
 refine zhf ?_
 apply ztn
 apply zsl
 refine zwN 136 (Z2F rp x.x (ZK x.S) (Zu (Zk Lb (⟨rp, (Z1H (⟨rp, x.x.cl, x.x.seq, x.x.h, ZK x.S, 0, 0⟩ : Z5))⟩ : Signed)) (⟨rp, (Z1H (⟨rp, x.x.cl, x.x.seq, x.x.h, ZK x.S, 0, 0⟩ : Z5))⟩ : Signed))) (H229.at 8 rfl) ?_
 refine zwd fun Kq kq => ?_
 refine Z2k (Z2F rp x.x (ZK x.S) (Zu (Zk Lb (⟨rp, (Z1H (⟨rp, x.x.cl, x.x.seq, x.x.h, ZK x.S, 0, 0⟩ : Z5))⟩ : Signed)) (⟨rp, (Z1H (⟨rp, x.x.cl, x.x.seq, x.x.h, ZK x.S, 0, 0⟩ : Z5))⟩ : Signed))) H229 7 ?_
 intro w233 H234
 refine kq _ _ ?_
 clear kq Kq
 refine wv 9 (.int .i64 (0)) ?_
 apply znt
 apply ZA
 refine Z9g rfl (Z0i (vs := (Z2F rp x.x (ZK x.S) (Zu (Zk Lb (⟨rp, (Z1H (⟨rp, x.x.cl, x.x.seq, x.x.h, ZK x.S, 0, 0⟩ : Z5))⟩ : Signed)) (⟨rp, (Z1H (⟨rp, x.x.cl, x.x.seq, x.x.h, ZK x.S, 0, 0⟩ : Z5))⟩ : Signed)))) rfl (by kernel_rfl) (by kernel_rfl) (by exact Nat.le_of_ble_eq_true (by kernel_rfl)) (H234.at 7 rfl) (by kernel_rfl)) (Z1m (v := (.int .i64 (0))) rfl) ?_
 exact ⟨(⟨rp, x.x.cl, x.x.seq, x.x.h, ZK x.S, rp, Zu (Zk Lb (⟨rp, (Z1H (⟨rp, x.x.cl, x.x.seq, x.x.h, ZK x.S, 0, 0⟩ : Z5))⟩ : Signed)) (⟨rp, (Z1H (⟨rp, x.x.cl, x.x.seq, x.x.h, ZK x.S, 0, 0⟩ : Z5))⟩ : Signed)⟩ : Z5), 0, a199, c200, ((L.take k) ++ (([x]) ++ (L.drop k))), a223, c224, (Zk Lb (⟨rp, (Z1H (⟨rp, x.x.cl, x.x.seq, x.x.h, ZK x.S, 0, 0⟩ : Z5))⟩ : Signed)), rfl, (Eq.symm (tkn (by have q := b11; simpa using q) b71 (of_decide_eq_false b135) (by have q := of_decide_eq_false b144; omega))), (fun _ => ⟨rfl, rfl⟩), (fun h => absurd rfl h), (.inr ⟨⟨rfl, (by have q := b11; simpa using q)⟩, b71, k, hpa, by simp⟩), H234.pk [0, 11, 2, 3, 4, 5]⟩
end Go.Proofs.YtoaifondpohniaaGreat
