/- WHAT IS PROVED: contracts and plain laws of Play11. Conditions: stated with each. -/
import Derived.Test.YtoaifondpohniaaGreatPL04
import Derived.Test.YtoaifondpohniaaGreatPL42
set_option maxHeartbeats 4000000
set_option maxRecDepth 100000
namespace Go.Proofs.YtoaifondpohniaaGreat
open Go.RowKit
abbrev ZC (p0 : Int) (p1 : Int) (p2 : Nat) : List Value := ([(.int .i64 p0), (.int .i64 (3)), (.int .i64 p1), (.map (some p2))] : List Value)
abbrev Zx (p0 : Int) (p1 : Int) (p2 : Option Addr) (p3 : Nat) (p4 : Nat) : List Value := ([(.int .i64 p0), (.int .i64 (3)), (.int .i64 p1), (.slice p2 p3 p4)] : List Value)
abbrev Z9 (p0 : Option Addr) (p1 : List CeR) (p2 : Nat) : Ck := Zk 53 38 (.slice p0 p1.length p2) p1.length (p1.flatMap Z03)
abbrev Zt (p0 : Nat) : List Value := ([(.map (some p0))] : List Value)
abbrev Zc (p0 : Nat) (p1 : List Signed) : Ck := ZQ p0 Zz (Value.int .i64) (ZS p1)
abbrev Zs (p0 : Option Addr) (p1 : Nat) (p2 : Nat) : List Value := ([(.slice p0 p1 p2)] : List Value)
abbrev Zb (p0 : Option Addr) (p1 : List Signed) (p2 : Nat) : Ck := Zk 114 2 (.slice p0 p1.length p2) p1.length (p1.flatMap Z1N)
abbrev Zv (p0 : Int) : List Value := ([(.int .i64 p0), (.int .i64 (3))] : List Value)
abbrev Zu (p0 : Nat) (p1 : Nat) : List Value := ([(pt p0 0), (pt p1 0)] : List Value)
abbrev ZN (p0 : Int) (p1 : Int) (p2 : Int) (p3 : Int) (p4 : Int) (p5 : Int) (p6 : Option Addr) (p7 : Nat) (p8 : Nat) (p9 : CeR) : List Value := ([(.int .i64 p0), (.int .i64 p1), (.int .u64 p2), (.int .u64 p3), (.int .i64 p4), (.int .i64 p5), (.slice p6 p7 p8), (.int .i64 p9.x.cl), (.int .i64 p9.x.seq)] : List Value) ++ hc p9.x.h ++ ([(.int .i64 p9.x.len), (.int .i64 p9.x.sb), (.int .i64 p9.x.sm), (.slice p9.sa p9.S.length p9.sc)] : List Value)
abbrev Z37 (p0 : Int) (p1 : Int) (p2 : Int) (p3 : Int) (p4 : Int) (p5 : Int) (p6 : Option Addr) (p7 : Nat) (p8 : Nat) (p9 : Zg) (p10 : Option Addr) (p11 : Nat) (p12 : Nat) : List Value := ([(.int .i64 p0), (.int .i64 p1), (.int .u64 p2), (.int .u64 p3), (.int .i64 p4), (.int .i64 p5), (.slice p6 p7 p8), (.int .i64 p9.cl), (.int .i64 p9.seq)] : List Value) ++ hc p9.h ++ ([(.int .i64 p9.len), (.int .i64 p9.sb), (.int .i64 p9.sm), (.slice p10 p11 p12)] : List Value)
abbrev Z6w : List Value := ([(.int .i64 (0)), (.int .i64 (0)), (.int .u64 (0)), (.int .u64 (0)), (.int .i64 (0)), (.int .i64 (0)), (.slice none 0 0), (.int .i64 (0)), (.int .i64 (0))] : List Value) ++ hc Z04 ++ ([(.int .i64 (0)), (.int .i64 (0)), (.int .i64 (0)), (.slice none 0 0)] : List Value)
abbrev Zo (p0 : Int) (p1 : Int) : List Value := ([(.int .i64 p0), (.int .i64 p1)] : List Value)
abbrev Z2f : List Value := ([(.int .i64 (0)), (.int .i64 (0))] : List Value)
abbrev Z0O (p0 : PrR) : List Value := ([(.int .i64 p0.r), (.int .i64 p0.e), (.int .u64 p0.f), (.slice p0.ca p0.C.length p0.cc), (.int .i64 p0.sb), (.int .i64 p0.sm)] : List Value)
abbrev Z4L : List Value := ([(.int .i64 (0)), (.int .i64 (0)), (.int .u64 (0)), (.slice none 0 0), (.int .i64 (0)), (.int .i64 (0))] : List Value)
abbrev Z1s (p0 : Option Addr) (p1 : List Za) (p2 : Nat) : Ck := Zk 101 38 (.slice p0 p1.length p2) p1.length (p1.flatMap Z0q)
abbrev Z06 (p0 : Za) : List Value := ([(.int .i64 p0.r), (.int .i64 p0.cl), (.int .i64 p0.seq)] : List Value) ++ hc p0.h ++ ([(.int .u64 p0.t), (.int .i64 p0.sb), (.int .i64 p0.sm)] : List Value)
abbrev Z1d (p0 : CeR) : List Value := ([(.int .i64 p0.x.cl), (.int .i64 p0.x.seq)] : List Value) ++ hc p0.x.h ++ ([(.int .i64 p0.x.len), (.int .i64 p0.x.sb), (.int .i64 p0.x.sm), (.slice p0.sa p0.S.length p0.sc)] : List Value)
abbrev Z2x : List Value := ([(.int .i64 (0)), (.int .i64 (0)), (.int .i64 (0))] : List Value) ++ hc Z04 ++ ([(.int .u64 (0)), (.int .i64 (0)), (.int .i64 (0))] : List Value)
abbrev Z0t : List Value := ([(.int .i64 (0)), (.int .i64 (0))] : List Value) ++ hc Z04 ++ ([(.int .i64 (0)), (.int .i64 (0)), (.int .i64 (0)), (.slice none 0 0)] : List Value)
abbrev Z0x (p0 : Zg) (p1 : Option Addr) (p2 : Nat) (p3 : Nat) : List Value := ([(.int .i64 p0.cl), (.int .i64 p0.seq)] : List Value) ++ hc p0.h ++ ([(.int .i64 p0.len), (.int .i64 p0.sb), (.int .i64 p0.sm), (.slice p1 p2 p3)] : List Value)
abbrev Z23 (p0 : Zg) (p1 : CeR) (p2 : Nat) : List Value := ([(.int .i64 p0.cl), (.int .i64 p0.seq)] : List Value) ++ hc p0.h ++ ([(.int .i64 p0.len), (.int .i64 p0.sb), (.int .i64 p0.sm), (.slice p1.sa p2 p1.sc)] : List Value)
theorem ZaT (w : World) (b mb : Nat) (L : List Signed) (hb : (Z0 b 110 [.map (some mb)]).ok w) (hm : MapAt w mb Zz (Value.int .i64) (ZS L)) :
  Calls Tryz.prog 70 #[(.pointer (some ⟨b, 0, none⟩))] w fun e w' => e = .returned (.int .i64 ((ZS L).length : Int)) ∧ Upd [] w w' := by
 have H := Sat.start0 w
 refine Zh Tryz.func70 rfl 8 rfl (Nat.le_of_ble_eq_true rfl) ?_
 apply zsl
 refine wv 2 (.int .i64 (0)) ?_
 apply Z2Q
 refine wv 3 (pt b 0) ?_
 refine wv 4 (pt b 0) ?_
 refine wv 5 (pt b 0) ?_
 refine zw1 6 (.map (some mb)) (H.roCell 0 rfl hb (fun h => h) rfl) ?_
 refine wv 7 (.int .i64 ((((ZS L)).length : Int))) ?_ (hr := Z9t (kt := 107) (et := 3) (by kernel_rfl) (H.roMap 0 rfl hm (fun h => h)) rfl)
 refine wv 2 (.int .i64 ((((ZS L)).length : Int))) ?_
 apply znt
 apply ZI
 refine ze1 (.int .i64 ((((ZS L)).length : Int))) ?_
 exact ⟨rfl, H.upd 0 rfl [] (fun _ h => h.elim)⟩
theorem tm7 (z : Int) : -7 < Int.tmod z 7 ∧ Int.tmod z 7 < 7 := by
 have h1 := Int.tmod_lt_of_pos z (show (0 : Int) < 7 by decide)
 have h2 := Int.tmod_lt_of_pos (-z) (show (0 : Int) < 7 by decide)
 rw [Int.neg_tmod] at h2
 omega
theorem Z4k {L : List Signed} {c : Zg} (h : Z9V L c) (hcl : 0 ≤ c.cl ∧ c.cl ≤ 1000) (hsq : c.seq ≤ 1000) (hln : c.len ≤ 1000) (hL : L.length ≤ 100000) : CoB c := by
 have q := (Z38 h.2.1).2
 have q1 := h.1
 have q2 := h.2.2
 exact ⟨⟨by omega, by omega, by omega⟩, by omega, by omega⟩
theorem TabEq.ceOk {B : List Ck} {M : List (NmD × CeR)} {L : List CeR} {w : World} (h : TabEq B M L) (n : NmD) (hb : (ZY B).ok w) : Zcp w ((ZP L n.cl n.sq).getD ce0) := by
 cases e : ZP L n.cl n.sq with
 | none => exact ListAt.nil
 | some c => exact Z21 hb (h.ct c (Z7t e).1).bag
theorem ZaU (w : World) (b mb : Nat) (L : List Signed) (hb : (Z0 b 110 [.map (some mb)]).ok w) (hm : MapAt w mb Zz (Value.int .i64) (ZS L)) : Calls Tryz.prog 70 #[.pointer (some ⟨b, 0, none⟩)] w fun e w' => e = .returned (.int .i64 (L.length : Int)) ∧ Upd [] w w' :=
 (ZaT w b mb L hb hm).mono fun _ _ q => ⟨by rw [q.1, Z7J], q.2⟩
theorem Z4T (w : World) (t tm : Nat) (F rp : Int) (M : List (NmD × CeR)) (tr : Nat) (la : Option Addr) (lc : Nat) (L : List CeR) (B : List Ck) (b mb r : Nat) (ra : Option Addr) (rc : Nat) (Lb : List Signed) (hA : (ZL [Z0 t 121 [.int .i64 F, .int .i64 3, .int .i64 rp, .map (some tm)], ZQ tm nmV ceV M, Z0 tr 45 [.int .i64 F, .int .i64 3, .int .i64 rp, .slice la (L).length lc], Zk 53 38 (.slice la (L).length lc) (L).length ((L).flatMap Z03), ZY B, Z0 b 110 [.map (some mb)], ZQ mb Zz (Value.int .i64) (ZS Lb), Z0 r 98 [.slice ra (Lb).length rc], Zk 114 2 (.slice ra (Lb).length rc) (Lb).length ((Lb).flatMap Z1N)]).ok w) (hF : 1 ≤ F ∧ F ≤ 2) (hrp : 0 ≤ rp ∧ rp ≤ 1000000) (hE : TabEq B M L) (hlM : M.length ≤ 64) (hnb : Lb.Nodup) (hlb0 : Lb.length ≤ 700) (aa : Option Addr) (ac : Nat) (AL : List Z9m) (hAL : ListAt Z6W 45 w (.slice aa AL.length ac) AL) (hva : 0 < AL.length → ∀ ad, aa = some ad → ¬ (ZL [Z0 t 121 [.int .i64 F, .int .i64 3, .int .i64 rp, .map (some tm)], ZQ tm nmV ceV M, Z0 tr 45 [.int .i64 F, .int .i64 3, .int .i64 rp, .slice la (L).length lc], Zk 53 38 (.slice la (L).length lc) (L).length ((L).flatMap Z03), ZY B, Z0 b 110 [.map (some mb)], ZQ mb Zz (Value.int .i64) (ZS Lb), Z0 r 98 [.slice ra (Lb).length rc], Zk 114 2 (.slice ra (Lb).length rc) (Lb).length ((Lb).flatMap Z1N)]).fp ad.block) (hAc : ∀ a ∈ AL, AcB w a) (hAo : ∀ a ∈ AL, AcOff (ZL [Z0 t 121 [.int .i64 F, .int .i64 3, .int .i64 rp, .map (some tm)], ZQ tm nmV ceV M, Z0 tr 45 [.int .i64 F, .int .i64 3, .int .i64 rp, .slice la (L).length lc], Zk 53 38 (.slice la (L).length lc) (L).length ((L).flatMap Z03), ZY B, Z0 b 110 [.map (some mb)], ZQ mb Zz (Value.int .i64) (ZS Lb), Z0 r 98 [.slice ra (Lb).length rc], Zk 114 2 (.slice ra (Lb).length rc) (Lb).length ((Lb).flatMap Z1N)]).fp a) :
  Calls Tryz.prog 33 #[(.agg ⟨([(.int .i64 (F)), (.int .i64 (3))] : List Value)⟩), (.pointer (some ⟨t, 0, none⟩)), (.pointer (some ⟨tr, 0, none⟩)), (.agg ⟨([(.pointer (some ⟨b, 0, none⟩)), (.pointer (some ⟨r, 0, none⟩))] : List Value)⟩), (.slice aa AL.length ac)] w fun e w' => ∃ (Mo : List (NmD × CeR)) (Bo : List Ck) (Lo : List CeR) (lao : Option Addr) (lco : Nat) (Lbo : List Signed) (rao : Option Addr) (rco : Nat), e = .returned (.bool true) ∧ TabEq Bo Mo Lo ∧ Mo.length ≤ 64 ∧ Lbo.Nodup ∧ Lbo.length ≤ Lb.length + 260 ∧ (∀ A ∈ B, A ∈ Bo) ∧ Sat w [Z0 t 121 [.int .i64 F, .int .i64 3, .int .i64 rp, .map (some tm)], ZQ tm nmV ceV Mo, Z0 tr 45 [.int .i64 F, .int .i64 3, .int .i64 rp, .slice lao (Lo).length lco], Zk 53 38 (.slice lao (Lo).length lco) (Lo).length ((Lo).flatMap Z03), ZY Bo, Z0 b 110 [.map (some mb)], ZQ mb Zz (Value.int .i64) (ZS Lbo), Z0 r 98 [.slice rao (Lbo).length rco], Zk 114 2 (.slice rao (Lbo).length rco) (Lbo).length ((Lbo).flatMap Z1N), Z7 w (ZL [Z0 t 121 [.int .i64 F, .int .i64 3, .int .i64 rp, .map (some tm)], ZQ tm nmV ceV M, Z0 tr 45 [.int .i64 F, .int .i64 3, .int .i64 rp, .slice la (L).length lc], Zk 53 38 (.slice la (L).length lc) (L).length ((L).flatMap Z03), ZY B, Z0 b 110 [.map (some mb)], ZQ mb Zz (Value.int .i64) (ZS Lb), Z0 r 98 [.slice ra (Lb).length rc], Zk 114 2 (.slice ra (Lb).length rc) (Lb).length ((Lb).flatMap Z1N)]).fp] w' := by
 have hlA := SliceOf.le hAL
 unfold maxLen at hlA
 have H := Sat.start _ hA
 refine Zh Tryz.func33 rfl 259 rfl (Nat.le_of_ble_eq_true rfl) ?_
 refine Z0A [5, 8, 10] (fun G_ W_ => ∃ (x5 x8 : Nat), G_ 5 = (pt x5 0) ∧ G_ 8 = (pt x8 0) ∧ G_ 10 = (.bool false) ∧ Sat w [Z0 t 121 (ZC F rp tm), ZQ tm nmV ceV M, Z0 tr 45 (Zx F rp la L.length lc), (Z9 la L lc), ZY B, Z0 b 110 (Zt mb), (Zc mb Lb), Z0 r 98 (Zs ra Lb.length rc), (Zb ra Lb rc), Z7 w (ZL [Z0 t 121 [.int .i64 F, .int .i64 3, .int .i64 rp, .map (some tm)], ZQ tm nmV ceV M, Z0 tr 45 [.int .i64 F, .int .i64 3, .int .i64 rp, .slice la (L).length lc], (Z9 la L lc), ZY B, Z0 b 110 [.map (some mb)], (Zc mb Lb), Z0 r 98 [.slice ra (Lb).length rc], (Zb ra Lb rc)]).fp, Z0 x5 36 (Zv F), Z0 x8 40 (Zu b r)] W_) ?_ ?_
 ·apply Zq
  refine zwd fun Kq kq => ?_
  refine zdb (Zv F) H ?_
  intro b3 w4 (H5 : Sat w [Z0 t 121 (ZC F rp tm), ZQ tm nmV ceV M, Z0 tr 45 (Zx F rp la L.length lc), (Z9 la L lc), ZY B, Z0 b 110 (Zt mb), (Zc mb Lb), Z0 r 98 (Zs ra Lb.length rc), (Zb ra Lb rc), Z7 w (ZL [Z0 t 121 [.int .i64 F, .int .i64 3, .int .i64 rp, .map (some tm)], ZQ tm nmV ceV M, Z0 tr 45 [.int .i64 F, .int .i64 3, .int .i64 rp, .slice la (L).length lc], (Z9 la L lc), ZY B, Z0 b 110 [.map (some mb)], (Zc mb Lb), Z0 r 98 [.slice ra (Lb).length rc], (Zb ra Lb rc)]).fp, Z0 b3 36 (Zv F)] w4)
  refine kq _ _ ?_
  clear kq Kq
  refine zwd fun Kq kq => ?_
  refine zdb (Zu b r) H5 ?_
  intro b7 w8 H9
  refine kq _ _ ?_
  clear kq Kq
  refine wv 10 (.bool false) ?_
  apply Zn
  have H10 := H9.pk [0, 1, 2, 3, 4, 5, 6, 7, 8, 9, 10, 11]
  refine ZX ?_ ⟨b3, b7, rfl, rfl, rfl, H10⟩
  exact (Z5 rfl (Z5 rfl (Z5 rfl (Z2o))))
 rintro f11 w12 ⟨x5, x8, v14, v15, v16, H13⟩
 refine Zl 5 _ v14 ?_
 refine Zl 8 _ v15 ?_
 refine Zl 10 _ v16 ?_
 apply Zd
 apply zsl
 refine wv 11 (.int .i64 (0)) ?_
 apply znt
 apply ZM
 refine Z0b (List.range' 10 249) (fun F_ W_ m_ => ∃ (i : Nat) (Mi : List (NmD × CeR)) (Bi : List Ck) (Li : List CeR) (lai : Option Addr) (lci : Nat) (Lbi : List Signed) (rai : Option Addr) (rci : Nat), F_ 11 = (.int .i64 ((i : Int))) ∧ (i ≤ AL.length) ∧ (i ≤ 20) ∧ (TabEq Bi Mi Li) ∧ (Mi.length ≤ 64) ∧ (Lbi.Nodup) ∧ (Lbi.length ≤ Lb.length + 13 * i) ∧ (∀ A ∈ B, A ∈ Bi) ∧ Sat w [Z0 t 121 (ZC F rp tm), ZQ tm nmV ceV Mi, Z0 tr 45 (Zx F rp lai Li.length lci), (Z9 lai Li lci), ZY Bi, Z0 b 110 (Zt mb), (Zc mb Lbi), Z0 r 98 (Zs rai Lbi.length rci), (Zb rai Lbi rci), Z7 w (ZL [Z0 t 121 [.int .i64 F, .int .i64 3, .int .i64 rp, .map (some tm)], ZQ tm nmV ceV M, Z0 tr 45 [.int .i64 F, .int .i64 3, .int .i64 rp, .slice la (L).length lc], (Z9 la L lc), ZY B, Z0 b 110 [.map (some mb)], (Zc mb Lb), Z0 r 98 [.slice ra (Lb).length rc], (Zb ra Lb rc)]).fp, Z0 x5 36 (Zv F), Z0 x8 40 (Zu b r)] W_ ∧ m_ = AL.length + 1 - i) _ ⟨0, M, B, L, la, lc, Lb, ra, rc, (show ((.int .i64 (0)) : Value) = _ by first | rfl | go_num), (Nat.zero_le _), (Nat.zero_le _), hE, hlM, hnb, (by omega), (fun _ h => h), H13, rfl⟩ ?_
 rintro g17 w18 _ ⟨i, Mi, Bi, Li, lai, lci, Lbi, rai, rci, v20, hiA, hi20, hE, hlM, hn, hlb, hsub, H19, rfl⟩
 refine Zl 11 _ v20 ?_
 apply Zd
 refine Z0A [35, 36, 37, 38, 39, 40, 41, 42] (fun G_ W_ => G_ 42 = (.bool (decide ((i : Int) < (AL.length : Int)) && decide ((i : Int) < 20))) ∧ Sat w [Z0 t 121 (ZC F rp tm), ZQ tm nmV ceV Mi, Z0 tr 45 (Zx F rp lai Li.length lci), (Z9 lai Li lci), ZY Bi, Z0 b 110 (Zt mb), (Zc mb Lbi), Z0 r 98 (Zs rai Lbi.length rci), (Zb rai Lbi rci), Z7 w (ZL [Z0 t 121 [.int .i64 F, .int .i64 3, .int .i64 rp, .map (some tm)], ZQ tm nmV ceV M, Z0 tr 45 [.int .i64 F, .int .i64 3, .int .i64 rp, .slice la (L).length lc], (Z9 la L lc), ZY B, Z0 b 110 [.map (some mb)], (Zc mb Lb), Z0 r 98 [.slice ra (Lb).length rc], (Zb ra Lb rc)]).fp, Z0 x5 36 (Zv F), Z0 x8 40 (Zu b r)] W_) ?_ ?_
 ·apply Zq
  refine wv 35 (.int .i64 ((i : Int))) ?_
  refine wv 36 (.slice aa AL.length ac) ?_
  refine wv 37 (.int .i64 ((AL.length : Int))) ?_
  refine wv 38 (.bool (decide ((i : Int) < (AL.length : Int)))) ?_
  refine wv 39 (.bool (decide ((i : Int) < (AL.length : Int)))) ?_
  refine (Zr (decide ((i : Int) < (AL.length : Int)))).elim (fun b23 => ?_) (fun b23 => ?_)
  ·have g24 := of_decide_eq_true b23
   refine ZJ 39 (.bool true) (congrArg Value.bool b23) ?_
   refine wy 4 39 true 40 (.int .i64 ((i : Int))) ?_
   refine wy 4 39 true 41 (.bool (decide ((i : Int) < 20))) ?_
   refine wv 42 (.bool (decide ((i : Int) < 20))) ?_
   apply Zn
   refine ZX ?_ ⟨(congrArg Value.bool (show (decide ((i : Int) < 20)) = (decide ((i : Int) < (AL.length : Int)) && decide ((i : Int) < 20)) by rw [b23]; rfl)), H19⟩
   exact zs
  have g26 := of_decide_eq_false b23
  refine ZJ 39 (.bool false) (congrArg Value.bool b23) ?_
  iterate 2 refine wn 4 39 true ?_
  refine wv 42 (.bool false) ?_
  apply Zn
  refine ZX ?_ ⟨(congrArg Value.bool (show false = (decide ((i : Int) < (AL.length : Int)) && decide ((i : Int) < 20)) by rw [b23]; rfl)), H19⟩
  exact zs
 rintro f28 w29 ⟨v31, H30⟩
 refine Zl 42 _ v31 ?_
 refine (Zr (decide ((i : Int) < (AL.length : Int)) && decide ((i : Int) < 20))).elim (fun b32 => ?_) (fun b32 => ?_)
 ·refine Z1V _ b32 ?_
  apply ZW
  apply ztn
  apply Zd
  apply ZM
  have hii : i < AL.length ∧ i < 20 := by have q := b32; simp only [Bool.and_eq_true, decide_eq_true_eq] at q; omega
  obtain ⟨hi1, hi2⟩ := hii
  refine Z0A [12, 45, 46, 47, 48] (fun G_ W_ => ∃ (x12 : Nat) (a : Z9m), G_ 12 = (pt x12 0) ∧ (a ∈ AL) ∧ Sat w [Z0 t 121 (ZC F rp tm), ZQ tm nmV ceV Mi, Z0 tr 45 (Zx F rp lai Li.length lci), (Z9 lai Li lci), ZY Bi, Z0 b 110 (Zt mb), (Zc mb Lbi), Z0 r 98 (Zs rai Lbi.length rci), (Zb rai Lbi rci), Z7 w (ZL [Z0 t 121 [.int .i64 F, .int .i64 3, .int .i64 rp, .map (some tm)], ZQ tm nmV ceV M, Z0 tr 45 [.int .i64 F, .int .i64 3, .int .i64 rp, .slice la (L).length lc], (Z9 la L lc), ZY B, Z0 b 110 [.map (some mb)], (Zc mb Lb), Z0 r 98 [.slice ra (Lb).length rc], (Zb ra Lb rc)]).fp, Z0 x5 36 (Zv F), Z0 x8 40 (Zu b r), Z0 x12 55 (ZN a.d a.f a.t a.u a.n.cl a.n.sq a.ta a.xs.length a.tc a.X)] W_) ?_ ?_
  ·apply Zq
   refine wv 45 (.slice aa AL.length ac) ?_
   refine wv 46 (.int .i64 ((i : Int))) ?_
   obtain ⟨g34, o35, c36, e37, R38⟩ := SliceOf.atD hAL ac0 (show i < AL.length by omega)
   refine wv 47 (.pointer (some ⟨g34, o35 + ((i : Int)).toNat * 45, none⟩)) ?_ (hr := ZV (E := 55) (by kernel_rfl) (by kernel_rfl) (Nat.le_of_ble_eq_true rfl) rfl e37 rfl (by omega) (by omega))
   refine wv 48 (.agg ⟨(Z37 ((AL.getD i ac0).d) ((AL.getD i ac0).f) ((AL.getD i ac0).t) ((AL.getD i ac0).u) ((AL.getD i ac0).n.cl) ((AL.getD i ac0).n.sq) ((AL.getD i ac0).ta) ((AL.getD i ac0).xs.length) ((AL.getD i ac0).tc) ((AL.getD i ac0).X.x) ((AL.getD i ac0).X.sa) ((AL.getD i ac0).X.S.length) ((AL.getD i ac0).X.sc))⟩) ?_ (hr := Z0k (vs := (Z37 ((AL.getD i ac0).d) ((AL.getD i ac0).f) ((AL.getD i ac0).t) ((AL.getD i ac0).u) ((AL.getD i ac0).n.cl) ((AL.getD i ac0).n.sq) ((AL.getD i ac0).ta) ((AL.getD i ac0).xs.length) ((AL.getD i ac0).tc) ((AL.getD i ac0).X.x) ((AL.getD i ac0).X.sa) ((AL.getD i ac0).X.S.length) ((AL.getD i ac0).X.sc))) rfl (by kernel_rfl) (by kernel_rfl) (Nat.le_of_ble_eq_true (by kernel_rfl)) (H30.runR 9 rfl (Z16 R38 0 (by kernel_rfl) (show o35 + ((i : Int)).toNat * 45 = o35 + i * 45 + 0 by omega)) (by have hq := hva (by omega) _ (Z3m e37); exact hq)))
   refine zwd fun Kq kq => ?_
   refine zda (Z6w) H30 ?_
   intro b40 w41 (H42 : Sat w [Z0 t 121 (ZC F rp tm), ZQ tm nmV ceV Mi, Z0 tr 45 (Zx F rp lai Li.length lci), (Z9 lai Li lci), ZY Bi, Z0 b 110 (Zt mb), (Zc mb Lbi), Z0 r 98 (Zs rai Lbi.length rci), (Zb rai Lbi rci), Z7 w (ZL [Z0 t 121 [.int .i64 F, .int .i64 3, .int .i64 rp, .map (some tm)], ZQ tm nmV ceV M, Z0 tr 45 [.int .i64 F, .int .i64 3, .int .i64 rp, .slice la (L).length lc], (Z9 la L lc), ZY B, Z0 b 110 [.map (some mb)], (Zc mb Lb), Z0 r 98 [.slice ra (Lb).length rc], (Zb ra Lb rc)]).fp, Z0 x5 36 (Zv F), Z0 x8 40 (Zu b r), Z0 b40 55 (Z6w)] w41)
   refine kq _ _ ?_
   clear kq Kq
   refine zwd fun Kq kq => ?_
   refine Z1F (Z37 ((AL.getD i ac0).d) ((AL.getD i ac0).f) ((AL.getD i ac0).t) ((AL.getD i ac0).u) ((AL.getD i ac0).n.cl) ((AL.getD i ac0).n.sq) ((AL.getD i ac0).ta) ((AL.getD i ac0).xs.length) ((AL.getD i ac0).tc) ((AL.getD i ac0).X.x) ((AL.getD i ac0).X.sa) ((AL.getD i ac0).X.S.length) ((AL.getD i ac0).X.sc)) H42 12 ?_
   intro w44 H45
   refine kq _ _ ?_
   clear kq Kq
   apply Zn
   have H47 := H45.pk [0, 1, 2, 3, 4, 5, 6, 7, 8, 9, 10, 11, 12]
   refine ZX ?_ ⟨b40, (AL.getD i ac0), rfl, (Zal (by omega)), H47⟩
   exact zs
  rintro f48 w49 ⟨x12, a, v51, haL, H50⟩
  refine Zl 12 _ v51 ?_
  have hw3 := Z2B a.n.cl 3 (by omega)
  have hw4 := Z2B a.n.sq 4 (by omega)
  have hw9 := Z2B a.f 9 (by omega)
  have hwf4 := Z2B a.f 4 (by omega)
  have htm7 := tm7 a.f
  have hat := (hAc a haL).t
  have hau := (hAc a haL).u
  refine Z0A [13, 49, 50, 51, 52, 53, 54, 55, 56, 57, 58] (fun G_ W_ => ∃ (x13 : Nat), G_ 13 = (pt x13 0) ∧ Sat w [Z0 t 121 (ZC F rp tm), ZQ tm nmV ceV Mi, Z0 tr 45 (Zx F rp lai Li.length lci), (Z9 lai Li lci), ZY Bi, Z0 b 110 (Zt mb), (Zc mb Lbi), Z0 r 98 (Zs rai Lbi.length rci), (Zb rai Lbi rci), Z7 w (ZL [Z0 t 121 [.int .i64 F, .int .i64 3, .int .i64 rp, .map (some tm)], ZQ tm nmV ceV M, Z0 tr 45 [.int .i64 F, .int .i64 3, .int .i64 rp, .slice la (L).length lc], (Z9 la L lc), ZY B, Z0 b 110 [.map (some mb)], (Zc mb Lb), Z0 r 98 [.slice ra (Lb).length rc], (Zb ra Lb rc)]).fp, Z0 x5 36 (Zv F), Z0 x8 40 (Zu b r), Z0 x12 55 (ZN a.d a.f a.t a.u a.n.cl a.n.sq a.ta a.xs.length a.tc a.X), Z0 x13 24 (Zo (Z3 a.n.cl 3) (1 + Z3 a.n.sq 4))] W_) ?_ ?_
  ·refine Z08 H50 [Z0 t 121 (ZC F rp tm), ZQ tm nmV ceV Mi, Z0 tr 45 (Zx F rp lai Li.length lci), (Z9 lai Li lci), ZY Bi, Z0 b 110 (Zt mb), (Zc mb Lbi), Z0 r 98 (Zs rai Lbi.length rci), (Zb rai Lbi rci), Z7 w (ZL [Z0 t 121 [.int .i64 F, .int .i64 3, .int .i64 rp, .map (some tm)], ZQ tm nmV ceV M, Z0 tr 45 [.int .i64 F, .int .i64 3, .int .i64 rp, .slice la (L).length lc], (Z9 la L lc), ZY B, Z0 b 110 [.map (some mb)], (Zc mb Lb), Z0 r 98 [.slice ra (Lb).length rc], (Zb ra Lb rc)]).fp, Z0 x5 36 (Zv F), Z0 x8 40 (Zu b r), Z0 x12 55 (ZN a.d a.f a.t a.u a.n.cl a.n.sq a.ta a.xs.length a.tc a.X)] 12 rfl (by kernel_rfl) (fun Hx => (Hx.pk [0, 1, 2, 3, 4, 5, 6, 7, 8, 9, 10, 11, 12])) ?_
   intro w53 H54 S55
   refine hv0 0 S55 49 (pt x12 4) ?_
   refine hv0 1 S55 50 (pt x12 4) ?_
   refine hv0 2 S55 51 (.int .i64 (a.n.cl)) ?_ (he := fun _ H' => (Z8 rfl (by kernel_rfl) (H'.cell 12 rfl (by kernel_rfl))))
   refine hv0 4 S55 53 (pt x12 4) ?_
   refine hv0 5 S55 54 (pt x12 5) ?_
   refine hv0 6 S55 55 (.int .i64 (a.n.sq)) ?_ (he := fun _ H' => (Z8 rfl (by kernel_rfl) (H'.cell 12 rfl (by kernel_rfl))))
   refine Z69 3 10 rfl rfl (by kernel_rfl) (Z1 rfl) (Z1 rfl) (fun Kq kq => ?_) (fun Kq kq => ?_)
   ·refine zdq 52 (Z1t w53 a.n.cl 3 (by omega)) H54 ?_
    intro w57 H58
    have S60 := H58.pk [0, 1, 2, 3, 4, 5, 6, 7, 8, 9, 10, 11, 12]
    refine kq _ _ S60 ?_
    clear kq Kq
    refine Z69 7 10 rfl rfl (by kernel_rfl) (Z1 rfl) (Z1 rfl) (fun Kq kq => ?_) (fun Kq kq => ?_)
    ·refine zdq 56 (Z1t w57 a.n.sq 4 (by omega)) H58 ?_
     intro w62 H63
     have S65 := H63.pk [0, 1, 2, 3, 4, 5, 6, 7, 8, 9, 10, 11, 12]
     refine kq _ _ S65 ?_
     clear kq Kq
     refine hv0 8 S65 57 (.int .i64 (1 + (Z3 a.n.sq 4))) ?_ (he := fun _ H' => (Z0n (z := 1 + (Z3 a.n.sq 4)) (by kernel_rfl) (IntWalk.i64_in _ (by omega))))
     refine Z09 9 rfl (by kernel_rfl) (by kernel_rfl) (by kernel_rfl) (fun _ _ _ h => h) S65 (Z1 rfl) (d := 58) (v := (.agg ⟨(Zo (Z3 a.n.cl 3) (1 + (Z3 a.n.sq 4)))⟩)) rfl (fun _ H' => (by kernel_rfl)) ?_
     refine Z0j 10 fun Kq kq => ?_
     refine zda (Z2f) H63 ?_
     intro b67 w68 (H69 : Sat w [Z0 t 121 (ZC F rp tm), ZQ tm nmV ceV Mi, Z0 tr 45 (Zx F rp lai Li.length lci), (Z9 lai Li lci), ZY Bi, Z0 b 110 (Zt mb), (Zc mb Lbi), Z0 r 98 (Zs rai Lbi.length rci), (Zb rai Lbi rci), Z7 w (ZL [Z0 t 121 [.int .i64 F, .int .i64 3, .int .i64 rp, .map (some tm)], ZQ tm nmV ceV M, Z0 tr 45 [.int .i64 F, .int .i64 3, .int .i64 rp, .slice la (L).length lc], (Z9 la L lc), ZY B, Z0 b 110 [.map (some mb)], (Zc mb Lb), Z0 r 98 [.slice ra (Lb).length rc], (Zb ra Lb rc)]).fp, Z0 x5 36 (Zv F), Z0 x8 40 (Zu b r), Z0 x12 55 (ZN a.d a.f a.t a.u a.n.cl a.n.sq a.ta a.xs.length a.tc a.X), Z0 b67 24 (Z2f)] w68)
     have S70 := H69.pk [0, 1, 2, 3, 4, 5, 6, 7, 8, 9, 10, 11, 12]
     refine kq _ _ S70 ?_
     clear kq Kq
     refine Z0j 11 fun Kq kq => ?_
     refine Z1F (Zo (Z3 a.n.cl 3) (1 + (Z3 a.n.sq 4))) H69 13 ?_
     intro w72 H73
     have S75 := H73.pk [0, 1, 2, 3, 4, 5, 6, 7, 8, 9, 10, 11, 12]
     refine kq _ _ S75 ?_
     clear kq Kq
     refine zhf ?_
     have H76 := H73.pk [0, 1, 2, 3, 4, 5, 6, 7, 8, 9, 10, 11, 12, 13]
     refine ZX ?_ ⟨b67, rfl, H76⟩
     exact zs
    refine zda (Z2f) H58 ?_
    intro b77 w78 (H79 : Sat w [Z0 t 121 (ZC F rp tm), ZQ tm nmV ceV Mi, Z0 tr 45 (Zx F rp lai Li.length lci), (Z9 lai Li lci), ZY Bi, Z0 b 110 (Zt mb), (Zc mb Lbi), Z0 r 98 (Zs rai Lbi.length rci), (Zb rai Lbi rci), Z7 w (ZL [Z0 t 121 [.int .i64 F, .int .i64 3, .int .i64 rp, .map (some tm)], ZQ tm nmV ceV M, Z0 tr 45 [.int .i64 F, .int .i64 3, .int .i64 rp, .slice la (L).length lc], (Z9 la L lc), ZY B, Z0 b 110 [.map (some mb)], (Zc mb Lb), Z0 r 98 [.slice ra (Lb).length rc], (Zb ra Lb rc)]).fp, Z0 x5 36 (Zv F), Z0 x8 40 (Zu b r), Z0 x12 55 (ZN a.d a.f a.t a.u a.n.cl a.n.sq a.ta a.xs.length a.tc a.X), Z0 b77 24 (Z2f)] w78)
    have S80 := H79.pk [0, 1, 2, 3, 4, 5, 6, 7, 8, 9, 10, 11, 12]
    refine kq _ _ S80 ?_
    clear kq Kq
    refine Z0j 7 fun Kq kq => ?_
    refine zdq 56 (Z1t w78 a.n.sq 4 (by omega)) H79 ?_
    intro w82 H83
    have S85 := H83.pk [0, 1, 2, 3, 4, 5, 6, 7, 8, 9, 10, 11, 12]
    refine kq _ _ S85 ?_
    clear kq Kq
    refine hv0 8 S85 57 (.int .i64 (1 + (Z3 a.n.sq 4))) ?_ (he := fun _ H' => (Z0n (z := 1 + (Z3 a.n.sq 4)) (by kernel_rfl) (IntWalk.i64_in _ (by omega))))
    refine Z09 9 rfl (by kernel_rfl) (by kernel_rfl) (by kernel_rfl) (fun _ _ _ h => h) S85 (Z1 rfl) (d := 58) (v := (.agg ⟨(Zo (Z3 a.n.cl 3) (1 + (Z3 a.n.sq 4)))⟩)) rfl (fun _ H' => (by kernel_rfl)) ?_
    refine Z0j 11 fun Kq kq => ?_
    refine Z1F (Zo (Z3 a.n.cl 3) (1 + (Z3 a.n.sq 4))) H83 13 ?_
    intro w87 H88
    have S90 := H88.pk [0, 1, 2, 3, 4, 5, 6, 7, 8, 9, 10, 11, 12]
    refine kq _ _ S90 ?_
    clear kq Kq
    refine zhf ?_
    have H91 := H88.pk [0, 1, 2, 3, 4, 5, 6, 7, 8, 9, 10, 11, 12, 13]
    refine ZX ?_ ⟨b77, rfl, H91⟩
    exact zs
   refine zda (Z2f) H54 ?_
   intro b92 w93 (H94 : Sat w [Z0 t 121 (ZC F rp tm), ZQ tm nmV ceV Mi, Z0 tr 45 (Zx F rp lai Li.length lci), (Z9 lai Li lci), ZY Bi, Z0 b 110 (Zt mb), (Zc mb Lbi), Z0 r 98 (Zs rai Lbi.length rci), (Zb rai Lbi rci), Z7 w (ZL [Z0 t 121 [.int .i64 F, .int .i64 3, .int .i64 rp, .map (some tm)], ZQ tm nmV ceV M, Z0 tr 45 [.int .i64 F, .int .i64 3, .int .i64 rp, .slice la (L).length lc], (Z9 la L lc), ZY B, Z0 b 110 [.map (some mb)], (Zc mb Lb), Z0 r 98 [.slice ra (Lb).length rc], (Zb ra Lb rc)]).fp, Z0 x5 36 (Zv F), Z0 x8 40 (Zu b r), Z0 x12 55 (ZN a.d a.f a.t a.u a.n.cl a.n.sq a.ta a.xs.length a.tc a.X), Z0 b92 24 (Z2f)] w93)
   have S95 := H94.pk [0, 1, 2, 3, 4, 5, 6, 7, 8, 9, 10, 11, 12]
   refine kq _ _ S95 ?_
   clear kq Kq
   refine Z0j 3 fun Kq kq => ?_
   refine zdq 52 (Z1t w93 a.n.cl 3 (by omega)) H94 ?_
   intro w97 H98
   have S100 := H98.pk [0, 1, 2, 3, 4, 5, 6, 7, 8, 9, 10, 11, 12]
   refine kq _ _ S100 ?_
   clear kq Kq
   refine Z0j 7 fun Kq kq => ?_
   refine zdq 56 (Z1t w97 a.n.sq 4 (by omega)) H98 ?_
   intro w102 H103
   have S105 := H103.pk [0, 1, 2, 3, 4, 5, 6, 7, 8, 9, 10, 11, 12]
   refine kq _ _ S105 ?_
   clear kq Kq
   refine hv0 8 S105 57 (.int .i64 (1 + (Z3 a.n.sq 4))) ?_ (he := fun _ H' => (Z0n (z := 1 + (Z3 a.n.sq 4)) (by kernel_rfl) (IntWalk.i64_in _ (by omega))))
   refine Z09 9 rfl (by kernel_rfl) (by kernel_rfl) (by kernel_rfl) (fun _ _ _ h => h) S105 (Z1 rfl) (d := 58) (v := (.agg ⟨(Zo (Z3 a.n.cl 3) (1 + (Z3 a.n.sq 4)))⟩)) rfl (fun _ H' => (by kernel_rfl)) ?_
   refine Z0j 11 fun Kq kq => ?_
   refine Z1F (Zo (Z3 a.n.cl 3) (1 + (Z3 a.n.sq 4))) H103 13 ?_
   intro w107 H108
   have S110 := H108.pk [0, 1, 2, 3, 4, 5, 6, 7, 8, 9, 10, 11, 12]
   refine kq _ _ S110 ?_
   clear kq Kq
   refine zhf ?_
   have H111 := H108.pk [0, 1, 2, 3, 4, 5, 6, 7, 8, 9, 10, 11, 12, 13]
   refine ZX ?_ ⟨b92, rfl, H111⟩
   exact zs
  rintro f112 w113 ⟨x13, v115, H114⟩
  refine Zl 13 _ v115 ?_
  apply zsl
  refine wv 59 (pt x12 2) ?_
  refine zw1 60 (.int .u64 (a.t)) (H114.cell 12 rfl (by kernel_rfl)) ?_
  refine wv 14 (.int .u64 (a.t)) ?_
  apply znt
  refine Z0A [14, 61, 62, 63, 64, 65] (fun G_ W_ => ∃ (fl : Int), G_ 14 = (.int .u64 (fl)) ∧ Sat w [Z0 t 121 (ZC F rp tm), ZQ tm nmV ceV Mi, Z0 tr 45 (Zx F rp lai Li.length lci), (Z9 lai Li lci), ZY Bi, Z0 b 110 (Zt mb), (Zc mb Lbi), Z0 r 98 (Zs rai Lbi.length rci), (Zb rai Lbi rci), Z7 w (ZL [Z0 t 121 [.int .i64 F, .int .i64 3, .int .i64 rp, .map (some tm)], ZQ tm nmV ceV M, Z0 tr 45 [.int .i64 F, .int .i64 3, .int .i64 rp, .slice la (L).length lc], (Z9 la L lc), ZY B, Z0 b 110 [.map (some mb)], (Zc mb Lb), Z0 r 98 [.slice ra (Lb).length rc], (Zb ra Lb rc)]).fp, Z0 x5 36 (Zv F), Z0 x8 40 (Zu b r), Z0 x12 55 (ZN a.d a.f a.t a.u a.n.cl a.n.sq a.ta a.xs.length a.tc a.X), Z0 x13 24 (Zo (Z3 a.n.cl 3) (1 + Z3 a.n.sq 4))] W_) ?_ ?_
  ·apply zsl
   refine wv 61 (.int .u64 (a.t)) ?_
   refine wv 62 (.int .u64 (a.t % 7)) ?_ (hr := Z6U (by kernel_rfl) (by omega) (by omega))
   refine wv 63 (.bool (!(decide ((a.t % 7) = 6)))) ?_
   apply znt
   refine (Zr (!(decide ((a.t % 7) = 6)))).elim (fun b117 => ?_) (fun b117 => ?_)
   ·have g118 := ZU b117
    have g119 := of_decide_eq_false g118
    refine Z1V _ b117 ?_
    apply Zq
    refine wv 64 (.int .u64 (a.t)) ?_
    refine wv 65 (.int .u64 (a.t % 30)) ?_ (hr := Z6U (by kernel_rfl) (by omega) (by omega))
    refine wv 14 (.int .u64 (a.t % 30)) ?_
    apply Zn
    refine ZX ?_ ⟨a.t % 30, rfl, H114⟩
    exact zs
   have g122 := Zj b117
   have g123 := of_decide_eq_true g122
   refine Z1w _ b117 ?_
   apply ZW
   refine ZX ?_ ⟨a.t, rfl, H114⟩
   exact (Z5 rfl (Z5 rfl (Z5 rfl (Z5 rfl (Z2o)))))
  rintro f126 w127 ⟨fl, v129, H128⟩
  refine Zl 14 _ v129 ?_
  refine Z0A (([10, 15, 16, 17, 18, 19, 20, 21, 22, 23, 24, 25, 26, 27, 28, 29, 30, 66, 67, 68, 69, 70, 71, 72, 73, 74, 75, 76, 77, 78, 79, 80, 81, 82, 83, 84, 85, 86, 87, 88] : List Nat) ++ ([89, 90, 91, 92, 93, 94, 95, 96, 97, 98, 99, 100, 101, 102, 103, 104, 105, 106, 107, 108, 109, 110, 111, 112, 113, 114, 115, 116, 117, 118, 119, 120, 121, 122, 123, 124, 125, 126, 127, 128] : List Nat) ++ ([129, 130, 131, 132, 133, 134, 135, 136, 137, 138, 139, 140, 141, 142, 143, 144, 145, 146, 147, 148, 149, 150, 151, 152, 153, 154, 155, 156, 157, 158, 159, 160, 161, 162, 163, 164, 165, 166, 167, 168] : List Nat) ++ ([169, 170, 171, 172, 173, 174, 175, 176, 177, 178, 179, 180, 181, 182, 183, 184, 185, 186, 187, 188, 189, 190, 191, 192, 193, 194, 195, 196, 197, 198, 199, 200, 201, 202, 203, 204, 205] : List Nat)) (fun G_ W_ => ∃ (Mj : List (NmD × CeR)) (Bj : List Ck) (Lj : List CeR) (laj : Option Addr) (lcj : Nat) (Lbj : List Signed) (raj : Option Addr) (rcj : Nat), (TabEq Bj Mj Lj) ∧ (Mj.length ≤ 64) ∧ (Lbj.Nodup) ∧ (Lbj.length ≤ Lb.length + 13 * (i + 1)) ∧ (∀ A ∈ Bi, A ∈ Bj) ∧ Sat w [Z0 t 121 (ZC F rp tm), ZQ tm nmV ceV Mj, Z0 tr 45 (Zx F rp laj Lj.length lcj), (Z9 laj Lj lcj), ZY Bj, Z0 b 110 (Zt mb), (Zc mb Lbj), Z0 r 98 (Zs raj Lbj.length rcj), (Zb raj Lbj rcj), Z7 w (ZL [Z0 t 121 [.int .i64 F, .int .i64 3, .int .i64 rp, .map (some tm)], ZQ tm nmV ceV M, Z0 tr 45 [.int .i64 F, .int .i64 3, .int .i64 rp, .slice la (L).length lc], (Z9 la L lc), ZY B, Z0 b 110 [.map (some mb)], (Zc mb Lb), Z0 r 98 [.slice ra (Lb).length rc], (Zb ra Lb rc)]).fp, Z0 x5 36 (Zv F), Z0 x8 40 (Zu b r), Z0 x13 24 (Zo (Z3 a.n.cl 3) (1 + Z3 a.n.sq 4))] W_) ?_ ?_
  ·apply zsl
   refine wv 66 (pt x12 0) ?_
   refine zw1 67 (.int .i64 (a.d)) (H128.cell 12 rfl (by kernel_rfl)) ?_
   refine zwd fun Kq kq => ?_
   refine zdq 68 (Z1t w127 a.d 7 (by omega)) H128 ?_
   intro w132 H133
   refine kq _ _ ?_
   clear kq Kq
   apply znt
   apply ZM
   apply zsl
   refine wv 112 (.bool (decide ((Z3 a.d 7) = 4))) ?_
   refine wv 111 (.bool (decide ((Z3 a.d 7) = 4))) ?_
   apply znt
   refine (Zr (decide ((Z3 a.d 7) = 4))).elim (fun b135 => ?_) (fun b135 => ?_)
   ·have g136 := of_decide_eq_true b135
    refine Z1V _ b135 ?_
    apply zsl
    refine wv 113 (pt x12 1) ?_
    refine zw1 114 (.int .i64 (a.f)) (H133.cell 12 rfl (by kernel_rfl)) ?_
    refine zwd fun Kq kq => ?_
    refine zdq 115 (Z1t w132 a.f 9 (by omega)) H133 ?_
    intro w139 H140
    refine kq _ _ ?_
    clear kq Kq
    refine zwi 116 ((Z3 a.f 9) - 1) ?_
    refine wv 15 (.int .i64 ((Z3 a.f 9) - 1)) ?_
    apply znt
    apply Zd
    obtain ⟨ep, hep⟩ : ∃ ep : Int, ep = (Z3 a.f 9) - 1 := ⟨_, rfl⟩
    refine Zl 15 (.int .i64 (ep)) (show ((.int .i64 ((Z3 a.f 9) - 1)) : Value) = _ by rw [hep]) ?_
    apply Zq
    refine wv 117 (pt x12 3) ?_
    refine zw1 118 (.int .u64 (a.u)) (H140.cell 12 rfl (by kernel_rfl)) ?_
    refine wv 16 (.int .u64 (a.u)) ?_
    apply znt
    refine Z0A [16, 119, 120, 121, 122, 123] (fun G_ W_ => ∃ (las : Int), G_ 16 = (.int .u64 (las)) ∧ (0 ≤ las ∧ las ≤ 18446744073709551615) ∧ Sat w [Z0 t 121 (ZC F rp tm), ZQ tm nmV ceV Mi, Z0 tr 45 (Zx F rp lai Li.length lci), (Z9 lai Li lci), ZY Bi, Z0 b 110 (Zt mb), (Zc mb Lbi), Z0 r 98 (Zs rai Lbi.length rci), (Zb rai Lbi rci), Z7 w (ZL [Z0 t 121 [.int .i64 F, .int .i64 3, .int .i64 rp, .map (some tm)], ZQ tm nmV ceV M, Z0 tr 45 [.int .i64 F, .int .i64 3, .int .i64 rp, .slice la (L).length lc], (Z9 la L lc), ZY B, Z0 b 110 [.map (some mb)], (Zc mb Lb), Z0 r 98 [.slice ra (Lb).length rc], (Zb ra Lb rc)]).fp, Z0 x5 36 (Zv F), Z0 x8 40 (Zu b r), Z0 x12 55 (ZN a.d a.f a.t a.u a.n.cl a.n.sq a.ta a.xs.length a.tc a.X), Z0 x13 24 (Zo (Z3 a.n.cl 3) (1 + Z3 a.n.sq 4))] W_) ?_ ?_
    ·apply zsl
     refine wv 119 (.int .u64 (a.u)) ?_
     refine wv 120 (.int .u64 (a.u % 5)) ?_ (hr := Z6U (by kernel_rfl) (by omega) (by omega))
     refine wv 121 (.bool (!(decide ((a.u % 5) = 4)))) ?_
     apply znt
     refine (Zr (!(decide ((a.u % 5) = 4)))).elim (fun b143 => ?_) (fun b143 => ?_)
     ·have g144 := ZU b143
      have g145 := of_decide_eq_false g144
      refine Z1V _ b143 ?_
      apply Zq
      refine wv 122 (.int .u64 (a.u)) ?_
      refine wv 123 (.int .u64 (a.u % 20)) ?_ (hr := Z6U (by kernel_rfl) (by omega) (by omega))
      refine wv 16 (.int .u64 (a.u % 20)) ?_
      apply Zn
      refine ZX ?_ ⟨a.u % 20, rfl, (by omega), H140⟩
      exact zs
     have g148 := Zj b143
     have g149 := of_decide_eq_true g148
     refine Z1w _ b143 ?_
     apply ZW
     refine ZX ?_ ⟨a.u, rfl, (by omega), H140⟩
     exact (Z5 rfl (Z5 rfl (Z5 rfl (Z5 rfl (Z2o)))))
    rintro f152 w153 ⟨las, v155, hlas, H154⟩
    refine Zl 16 _ v155 ?_
    refine Z0A ([17, 18] ++ List.range' 124 11) (fun G_ W_ => ∃ (x17 : Nat) (p : PrR) (Bh : List Ck) (L2 : List Signed), G_ 17 = (pt x17 0) ∧ G_ 18 = (.int .i64 (Z1B ep las a.t)) ∧ (Z1B ep las a.t = 0 → ∃ (HL : List CeR) (ss : List NmD), ss.Perm (Mi.map (·.1)) ∧ (ss.Pairwise fun a b => ¬ Z5c b a) ∧ HvC Mi ss HL ∧ Z9X rp ep a.t Lbi L2 (Z0a HL las a.t) p ∧ ∀ c ∈ p.C, CeT Bh c) ∧ (¬ Z1B ep las a.t = 0 → p = pr0 ∧ L2 = Lbi) ∧ Sat w [Z0 t 121 (ZC F rp tm), ZQ tm nmV ceV Mi, Z0 tr 45 (Zx F rp lai Li.length lci), (Z9 lai Li lci), ZY Bi, Z0 b 110 (Zt mb), (Zc mb L2), Z0 r 98 (Zs rai Lbi.length rci), (Zb rai Lbi rci), Z7 w (ZL [Z0 t 121 [.int .i64 F, .int .i64 3, .int .i64 rp, .map (some tm)], ZQ tm nmV ceV M, Z0 tr 45 [.int .i64 F, .int .i64 3, .int .i64 rp, .slice la (L).length lc], (Z9 la L lc), ZY B, Z0 b 110 [.map (some mb)], (Zc mb Lb), Z0 r 98 [.slice ra (Lb).length rc], (Zb ra Lb rc)]).fp, Z0 x5 36 (Zv F), Z0 x8 40 (Zu b r), Z0 x12 55 (ZN a.d a.f a.t a.u a.n.cl a.n.sq a.ta a.xs.length a.tc a.X), Z0 x13 24 (Zo (Z3 a.n.cl 3) (1 + Z3 a.n.sq 4)), Z0 x17 34 (Z0O p), (Z9 p.ca p.C p.cc), ZY Bh] W_) ?_ ?_
    ·apply Zq
     refine wv 125 (pt t 0) ?_
     refine wv 126 (pt x8 0) ?_
     refine zw1 127 (pt b 0) (H154.cell 11 rfl rfl) ?_
     refine wv 128 (.int .i64 (ep)) ?_
     refine wv 129 (.int .u64 (las)) ?_
     refine wv 130 (pt x12 2) ?_
     refine zw1 131 (.int .u64 (a.t)) (H154.cell 12 rfl (by kernel_rfl)) ?_
     refine zwd fun Kq kq => ?_
     refine zdc 132 (Z9A w153 t tm F 3 rp Mi Bi b mb Lbi (H154.fn [0, 1, 4, 5, 6]) hE.ok.T (by omega) (by omega) hn (by omega) ep las a.t (by omega) (by omega)) ?_
     rintro _ w158 ⟨p159, B160, L161, rfl, h162, h163, T164⟩
     have H165 : Sat w [Z0 t 121 (ZC F rp tm), ZQ tm nmV ceV Mi, Z0 tr 45 (Zx F rp lai Li.length lci), (Z9 lai Li lci), ZY Bi, Z0 b 110 (Zt mb), (Zc mb L161), Z0 r 98 (Zs rai Lbi.length rci), (Zb rai Lbi rci), Z7 w (ZL [Z0 t 121 [.int .i64 F, .int .i64 3, .int .i64 rp, .map (some tm)], ZQ tm nmV ceV M, Z0 tr 45 [.int .i64 F, .int .i64 3, .int .i64 rp, .slice la (L).length lc], (Z9 la L lc), ZY B, Z0 b 110 [.map (some mb)], (Zc mb Lb), Z0 r 98 [.slice ra (Lb).length rc], (Zb ra Lb rc)]).fp, Z0 x5 36 (Zv F), Z0 x8 40 (Zu b r), Z0 x12 55 (ZN a.d a.f a.t a.u a.n.cl a.n.sq a.ta a.xs.length a.tc a.X), Z0 x13 24 (Zo (Z3 a.n.cl 3) (1 + Z3 a.n.sq 4)), (Z9 p159.ca p159.C p159.cc), ZY B160] w158 := (Sat.turnL (L' := [Z0 t 121 (ZC F rp tm), ZQ tm nmV ceV Mi, ZY Bi, Z0 b 110 (Zt mb), (Zc mb L161), (Z9 p159.ca p159.C p159.cc), ZY B160]) (R := [Z0 tr 45 (Zx F rp lai Li.length lci), (Z9 lai Li lci), Z0 r 98 (Zs rai Lbi.length rci), (Zb rai Lbi rci), Z7 w (ZL [Z0 t 121 [.int .i64 F, .int .i64 3, .int .i64 rp, .map (some tm)], ZQ tm nmV ceV M, Z0 tr 45 [.int .i64 F, .int .i64 3, .int .i64 rp, .slice la (L).length lc], (Z9 la L lc), ZY B, Z0 b 110 [.map (some mb)], (Zc mb Lb), Z0 r 98 [.slice ra (Lb).length rc], (Zb ra Lb rc)]).fp, Z0 x5 36 (Zv F), Z0 x8 40 (Zu b r), Z0 x12 55 (ZN a.d a.f a.t a.u a.n.cl a.n.sq a.ta a.xs.length a.tc a.X), Z0 x13 24 (Zo (Z3 a.n.cl 3) (1 + Z3 a.n.sq 4))]) H154 [0, 1, 4, 5, 6] [2, 3, 7, 8, 9, 10, 11, 12, 13] (by decide) (by kernel_rfl) rfl T164).pk [0, 1, 7, 8, 2, 3, 4, 9, 10, 11, 12, 13, 14, 15, 5, 6]
     refine ⟨_, rfl, ?_⟩
     refine kq _ _ ?_
     clear kq Kq
     refine wv 124 (.tuple #[(.agg ⟨(Z0O p159)⟩), (.int .i64 (Z1B ep las a.t))]) ?_
     refine wv 133 (.agg ⟨(Z0O p159)⟩) ?_
     refine wv 134 (.int .i64 (Z1B ep las a.t)) ?_
     refine zwd fun Kq kq => ?_
     refine zda (Z4L) H165 ?_
     intro b167 w168 H169
     refine kq _ _ ?_
     clear kq Kq
     refine zwd fun Kq kq => ?_
     refine Z1F (Z0O p159) H169 16 ?_
     intro w171 (H172 : Sat w [Z0 t 121 (ZC F rp tm), ZQ tm nmV ceV Mi, Z0 tr 45 (Zx F rp lai Li.length lci), (Z9 lai Li lci), ZY Bi, Z0 b 110 (Zt mb), (Zc mb L161), Z0 r 98 (Zs rai Lbi.length rci), (Zb rai Lbi rci), Z7 w (ZL [Z0 t 121 [.int .i64 F, .int .i64 3, .int .i64 rp, .map (some tm)], ZQ tm nmV ceV M, Z0 tr 45 [.int .i64 F, .int .i64 3, .int .i64 rp, .slice la (L).length lc], (Z9 la L lc), ZY B, Z0 b 110 [.map (some mb)], (Zc mb Lb), Z0 r 98 [.slice ra (Lb).length rc], (Zb ra Lb rc)]).fp, Z0 x5 36 (Zv F), Z0 x8 40 (Zu b r), Z0 x12 55 (ZN a.d a.f a.t a.u a.n.cl a.n.sq a.ta a.xs.length a.tc a.X), Z0 x13 24 (Zo (Z3 a.n.cl 3) (1 + Z3 a.n.sq 4)), (Z9 p159.ca p159.C p159.cc), ZY B160, Z0 b167 34 (Z0O p159)] w171)
     refine kq _ _ ?_
     clear kq Kq
     refine wv 18 (.int .i64 (Z1B ep las a.t)) ?_
     apply Zn
     have H174 := H172.pk [0, 1, 2, 3, 4, 5, 6, 7, 8, 9, 10, 11, 12, 13, 16, 14, 15]
     refine ZX ?_ ⟨b167, p159, B160, L161, rfl, rfl, h162, h163, H174⟩
     exact zs
    rintro f175 w176 ⟨x17, p, Bh, L2, v178, v179, hp1, hp2, H177⟩
    refine Zl 17 _ v178 ?_
    refine Zl 18 _ v179 ?_
    refine Z0A ([19, 20] ++ List.range' 135 11) (fun G_ W_ => ∃ (x19 : Nat) (q : PrR) (ra2 : Option Addr) (rc2 : Nat), G_ 19 = (pt x19 0) ∧ G_ 20 = (.int .i64 (Z1B ep las a.t)) ∧ (Zci q = Zci p) ∧ (L2.Nodup) ∧ (L2.length ≤ Lbi.length + 1) ∧ (∀ c ∈ p.C, stC c ∈ Bh) ∧ (∀ c ∈ q.C, stC c ∈ Bi) ∧ Sat w [Z0 t 121 (ZC F rp tm), ZQ tm nmV ceV Mi, Z0 tr 45 (Zx F rp lai Li.length lci), (Z9 lai Li lci), ZY Bi, Z0 b 110 (Zt mb), (Zc mb L2), Z0 r 98 (Zs ra2 L2.length rc2), (Zb ra2 L2 rc2), Z7 w (ZL [Z0 t 121 [.int .i64 F, .int .i64 3, .int .i64 rp, .map (some tm)], ZQ tm nmV ceV M, Z0 tr 45 [.int .i64 F, .int .i64 3, .int .i64 rp, .slice la (L).length lc], (Z9 la L lc), ZY B, Z0 b 110 [.map (some mb)], (Zc mb Lb), Z0 r 98 [.slice ra (Lb).length rc], (Zb ra Lb rc)]).fp, Z0 x5 36 (Zv F), Z0 x8 40 (Zu b r), Z0 x12 55 (ZN a.d a.f a.t a.u a.n.cl a.n.sq a.ta a.xs.length a.tc a.X), Z0 x13 24 (Zo (Z3 a.n.cl 3) (1 + Z3 a.n.sq 4)), Z0 x17 34 (Z0O p), (Z9 p.ca p.C p.cc), ZY Bh, Z0 x19 34 (Z0O q), (Z9 q.ca q.C q.cc)] W_) ?_ ?_
    ·apply Zq
     refine wv 136 (pt tr 0) ?_
     refine wv 137 (pt x8 1) ?_
     refine zw1 138 (pt r 0) (H177.cell 11 rfl rfl) ?_
     refine wv 139 (.int .i64 (ep)) ?_
     refine wv 140 (.int .u64 (las)) ?_
     refine wv 141 (pt x12 2) ?_
     refine zw1 142 (.int .u64 (a.t)) (H177.cell 12 rfl (by kernel_rfl)) ?_
     refine zwd fun Kq kq => ?_
     refine zdc 143 (Zb0 w176 tr F 3 rp lai lci Li Bi r rai rci Lbi (H177.fn [2, 3, 4, 7, 8]) (by have q := hE.len; omega) hE.ct (by omega) hn (by omega) ep las a.t (by omega) (by omega)) ?_
     rintro _ w182 ⟨p183, a184, c185, L186, rfl, h187, h188, T189⟩
     have H190 := H177.tl [Z0 tr 45 (Zx F rp lai Li.length lci), (Z9 lai Li lci), ZY Bi, Z0 r 98 (Zs a184 L186.length c185), (Zb a184 L186 c185), (Z9 p183.ca p183.C p183.cc)] [2, 3, 4, 7, 8] [0, 1, 5, 6, 9, 10, 11, 12, 13, 14, 15, 16] T189 [6, 7, 0, 1, 2, 8, 9, 3, 4, 10, 11, 12, 13, 14, 15, 16, 17, 5]
     refine ⟨_, rfl, ?_⟩
     refine kq _ _ ?_
     clear kq Kq
     refine wv 135 (.tuple #[(.agg ⟨(Z0O p183)⟩), (.int .i64 (Z1B ep las a.t))]) ?_
     refine wv 144 (.agg ⟨(Z0O p183)⟩) ?_
     refine wv 145 (.int .i64 (Z1B ep las a.t)) ?_
     refine zwd fun Kq kq => ?_
     refine zda (Z4L) H190 ?_
     intro b192 w193 (H194 : Sat w [Z0 t 121 (ZC F rp tm), ZQ tm nmV ceV Mi, Z0 tr 45 (Zx F rp lai Li.length lci), (Z9 lai Li lci), ZY Bi, Z0 b 110 (Zt mb), (Zc mb L2), Z0 r 98 (Zs a184 L186.length c185), (Zb a184 L186 c185), Z7 w (ZL [Z0 t 121 [.int .i64 F, .int .i64 3, .int .i64 rp, .map (some tm)], ZQ tm nmV ceV M, Z0 tr 45 [.int .i64 F, .int .i64 3, .int .i64 rp, .slice la (L).length lc], (Z9 la L lc), ZY B, Z0 b 110 [.map (some mb)], (Zc mb Lb), Z0 r 98 [.slice ra (Lb).length rc], (Zb ra Lb rc)]).fp, Z0 x5 36 (Zv F), Z0 x8 40 (Zu b r), Z0 x12 55 (ZN a.d a.f a.t a.u a.n.cl a.n.sq a.ta a.xs.length a.tc a.X), Z0 x13 24 (Zo (Z3 a.n.cl 3) (1 + Z3 a.n.sq 4)), Z0 x17 34 (Z0O p), (Z9 p.ca p.C p.cc), ZY Bh, (Z9 p183.ca p183.C p183.cc), Z0 b192 34 (Z4L)] w193)
     refine kq _ _ ?_
     clear kq Kq
     refine zwd fun Kq kq => ?_
     refine Z1F (Z0O p183) H194 18 ?_
     intro w196 H197
     refine kq _ _ ?_
     clear kq Kq
     refine wv 20 (.int .i64 (Z1B ep las a.t)) ?_
     apply Zn
     have H199 := H197.pk [0, 1, 2, 3, 4, 5, 6, 7, 8, 9, 10, 11, 12, 13, 14, 15, 16, 18, 17]
     obtain ⟨hkq, hLe, hnd2, hll2, hpb, hqb⟩ := Za2 hE hn hp1 hp2 h187 h188
     have H200 : Sat w [Z0 t 121 ([(.int .i64 (F)), (.int .i64 (3)), (.int .i64 (rp)), (.map (some tm))] : List Value), ZQ tm nmV ceV Mi, Z0 tr 45 ([(.int .i64 (F)), (.int .i64 (3)), (.int .i64 (rp)), (.slice lai Li.length lci)] : List Value), Zk 53 38 (.slice lai Li.length lci) Li.length (Li.flatMap Z03), ZY Bi, Z0 b 110 ([(.map (some mb))] : List Value), ZQ mb Zz (Value.int .i64) (ZS L2), Z0 r 98 ([(.slice a184 L2.length c185)] : List Value), Zk 114 2 (.slice a184 L2.length c185) L2.length (L2.flatMap Z1N), Z7 w (ZL [Z0 t 121 [.int .i64 F, .int .i64 3, .int .i64 rp, .map (some tm)], ZQ tm nmV ceV M, Z0 tr 45 [.int .i64 F, .int .i64 3, .int .i64 rp, .slice la (L).length lc], Zk 53 38 (.slice la (L).length lc) (L).length ((L).flatMap Z03), ZY B, Z0 b 110 [.map (some mb)], ZQ mb Zz (Value.int .i64) (ZS Lb), Z0 r 98 [.slice ra (Lb).length rc], Zk 114 2 (.slice ra (Lb).length rc) (Lb).length ((Lb).flatMap Z1N)]).fp, Z0 x5 36 ([(.int .i64 (F)), (.int .i64 (3))] : List Value), Z0 x8 40 ([(pt b 0), (pt r 0)] : List Value), Z0 x12 55 (([(.int .i64 (a.d)), (.int .i64 (a.f)), (.int .u64 (a.t)), (.int .u64 (a.u)), (.int .i64 (a.n.cl)), (.int .i64 (a.n.sq)), (.slice a.ta a.xs.length a.tc), (.int .i64 (a.X.x.cl)), (.int .i64 (a.X.x.seq))] : List Value) ++ hc a.X.x.h ++ ([(.int .i64 (a.X.x.len)), (.int .i64 (a.X.x.sb)), (.int .i64 (a.X.x.sm)), (.slice a.X.sa a.X.S.length a.X.sc)] : List Value)), Z0 x13 24 ([(.int .i64 (Z3 a.n.cl 3)), (.int .i64 (1 + Z3 a.n.sq 4))] : List Value), Z0 x17 34 ([(.int .i64 (p.r)), (.int .i64 (p.e)), (.int .u64 (p.f)), ((.slice p.ca p.C.length p.cc)), (.int .i64 (p.sb)), (.int .i64 (p.sm))] : List Value), Zk 53 38 (.slice p.ca p.C.length p.cc) p.C.length (p.C.flatMap Z03), ZY Bh, Z0 b192 34 ([(.int .i64 (p183.r)), (.int .i64 (p183.e)), (.int .u64 (p183.f)), ((.slice p183.ca p183.C.length p183.cc)), (.int .i64 (p183.sb)), (.int .i64 (p183.sm))] : List Value), Zk 53 38 (.slice p183.ca p183.C.length p183.cc) p183.C.length (p183.C.flatMap Z03)] w196 := by have q_ := H199; rw [hLe] at q_; exact q_
     refine ZX ?_ ⟨b192, p183, a184, c185, rfl, rfl, hkq, hnd2, hll2, hpb, hqb, H200⟩
     exact zs
    rintro f201 w202 ⟨x19, q, ra2, rc2, v204, v205, hkq, hn2, hll2, hpb, hqb, H203⟩
    refine Zl 19 _ v204 ?_
    refine Zl 20 _ v205 ?_
    apply zsl
    refine wv 146 (.int .i64 (Z1B ep las a.t)) ?_
    refine wv 147 (.int .i64 (Z1B ep las a.t)) ?_
    refine wv 148 (.bool (!(decide ((Z1B ep las a.t) = (Z1B ep las a.t))))) ?_
    refine wv 149 (.bool (!(decide ((Z1B ep las a.t) = (Z1B ep las a.t))))) ?_
    have b206 : (!(decide ((Z1B ep las a.t) = (Z1B ep las a.t)))) = false := by rw [decide_eq_true rfl]; rfl
    refine ZJ 149 (.bool false) (congrArg Value.bool b206) ?_
    have g207 := Zj b206
    have g208 := of_decide_eq_true g207
    refine wy 3 149 false 150 (.agg ⟨(Z0O p)⟩) ?_ (hr := Zi (vs := (Z0O p)) rfl (by kernel_rfl) (by kernel_rfl) (by exact Nat.le_of_ble_eq_true (by kernel_rfl)) (H203.at 14 rfl) (by kernel_rfl))
    refine wy 3 149 false 151 (.agg ⟨(Z0O q)⟩) ?_ (hr := Zi (vs := (Z0O q)) rfl (by kernel_rfl) (by kernel_rfl) (by exact Nat.le_of_ble_eq_true (by kernel_rfl)) (H203.at 17 rfl) (by kernel_rfl))
    refine Z07 (ZD 3 149 false rfl (by kernel_rfl) rfl (by kernel_rfl)) (fun Kq kq => ?_)
    refine zdq 152 (Zaw w202 p q ⟨ListAt.row Z0l (by decide) (H203.at 15 rfl), fun c hc => Z21 (H203.at 16 rfl) (hpb c hc)⟩ ⟨ListAt.row Z0l (by decide) (H203.at 18 rfl), fun c hc => Z21 (H203.at 4 rfl) (hqb c hc)⟩ hkq) H203 ?_
    intro w210 H211
    refine kq _ _ ?_
    clear kq Kq
    refine wy 3 149 false 153 (.bool false) ?_
    refine wv 154 (.bool false) ?_
    apply znt
    refine Z1g rfl ?_
    apply ZW
    apply Zw
    have H213 := H211.pk [0, 1, 2, 3, 4, 5, 6, 7, 8, 9, 10, 11, 13]
    refine ZX ?_ ⟨Mi, Bi, Li, lai, lci, L2, ra2, rc2, hE, (by omega), hn2, (by omega), (fun _ h => h), H213⟩
    exact zs
   have g214 := of_decide_eq_false b135
   refine Z1w _ b135 ?_
   apply zsl
   refine wv 156 (.bool (decide ((Z3 a.d 7) = 5))) ?_
   refine wv 155 (.bool (decide ((Z3 a.d 7) = 5))) ?_
   apply znt
   refine (Zr (decide ((Z3 a.d 7) = 5))).elim (fun b216 => ?_) (fun b216 => ?_)
   ·have g217 := of_decide_eq_true b216
    refine Z1V _ b216 ?_
    apply Zd
    refine Z08 H133 [Z0 t 121 (ZC F rp tm), ZQ tm nmV ceV Mi, Z0 tr 45 (Zx F rp lai Li.length lci), (Z9 lai Li lci), ZY Bi, Z0 b 110 (Zt mb), (Zc mb Lbi), Z0 r 98 (Zs rai Lbi.length rci), (Zb rai Lbi rci), Z7 w (ZL [Z0 t 121 [.int .i64 F, .int .i64 3, .int .i64 rp, .map (some tm)], ZQ tm nmV ceV M, Z0 tr 45 [.int .i64 F, .int .i64 3, .int .i64 rp, .slice la (L).length lc], (Z9 la L lc), ZY B, Z0 b 110 [.map (some mb)], (Zc mb Lb), Z0 r 98 [.slice ra (Lb).length rc], (Zb ra Lb rc)]).fp, Z0 x5 36 (Zv F), Z0 x8 40 (Zu b r), Z0 x12 55 (ZN a.d a.f a.t a.u a.n.cl a.n.sq a.ta a.xs.length a.tc a.X), Z0 x13 24 (Zo (Z3 a.n.cl 3) (1 + Z3 a.n.sq 4))] 7 rfl (by kernel_rfl) (fun Hx => (Hx.pk [0, 1, 2, 3, 4, 5, 6, 7, 8, 9, 10, 11, 12, 13])) ?_
    intro w219 H220 S221
    refine hv0 0 S221 157 (.agg ⟨(Zo (Z3 a.n.cl 3) (1 + Z3 a.n.sq 4))⟩) ?_ (he := fun _ H' => (Zi (vs := (Zo (Z3 a.n.cl 3) (1 + Z3 a.n.sq 4))) rfl (by kernel_rfl) (by kernel_rfl) (by exact Nat.le_of_ble_eq_true (by kernel_rfl)) (H'.at 13 rfl) (by kernel_rfl)))
    refine hv0 1 S221 158 (pt x12 1) ?_
    refine hv0 2 S221 159 (.int .i64 (a.f)) ?_ (he := fun _ H' => (Z8 rfl (by kernel_rfl) (H'.cell 12 rfl (by kernel_rfl))))
    refine Z0j 3 fun Kq kq => ?_
    refine zdq 160 (Z1t w219 a.f 4 (by omega)) H220 ?_
    intro w223 H224
    have S226 := H224.pk [0, 1, 2, 3, 4, 5, 6, 7, 8, 9, 10, 11, 12, 13]
    refine kq _ _ S226 ?_
    clear kq Kq
    refine Z09 4 rfl (by kernel_rfl) (by kernel_rfl) (by kernel_rfl) (fun _ _ _ h => h) S226 (Z1 rfl) (d := 161) (v := (.agg ⟨([(.int .i64 (1)), (.int .i64 (Z3 a.f 4))] : List Value)⟩)) rfl (fun _ H' => (by kernel_rfl)) ?_
    refine Z0j 5 fun Kq kq => ?_
    refine Z45 24 2 16 (.agg ⟨(Z2f)⟩) [(0, (.agg ⟨(Zo (Z3 a.n.cl 3) (1 + Z3 a.n.sq 4))⟩)), (1, (.agg ⟨([(.int .i64 (1)), (.int .i64 (Z3 a.f 4))] : List Value)⟩))] ([(.int .i64 (Z3 a.n.cl 3)), (.int .i64 (1 + Z3 a.n.sq 4)), (.int .i64 (1)), (.int .i64 (Z3 a.f 4))] : List Value) H224 ?_
    intro b228 w229 (H230 : Sat w [Z0 t 121 (ZC F rp tm), ZQ tm nmV ceV Mi, Z0 tr 45 (Zx F rp lai Li.length lci), (Z9 lai Li lci), ZY Bi, Z0 b 110 (Zt mb), (Zc mb Lbi), Z0 r 98 (Zs rai Lbi.length rci), (Zb rai Lbi rci), Z7 w (ZL [Z0 t 121 [.int .i64 F, .int .i64 3, .int .i64 rp, .map (some tm)], ZQ tm nmV ceV M, Z0 tr 45 [.int .i64 F, .int .i64 3, .int .i64 rp, .slice la (L).length lc], (Z9 la L lc), ZY B, Z0 b 110 [.map (some mb)], (Zc mb Lb), Z0 r 98 [.slice ra (Lb).length rc], (Zb ra Lb rc)]).fp, Z0 x5 36 (Zv F), Z0 x8 40 (Zu b r), Z0 x12 55 (ZN a.d a.f a.t a.u a.n.cl a.n.sq a.ta a.xs.length a.tc a.X), Z0 x13 24 (Zo (Z3 a.n.cl 3) (1 + Z3 a.n.sq 4)), Zk 24 2 (.slice (some ⟨b228, 0, none⟩) 2 2) 2 ([(.int .i64 (Z3 a.n.cl 3)), (.int .i64 (1 + Z3 a.n.sq 4)), (.int .i64 (1)), (.int .i64 (Z3 a.f 4))] : List Value)] w229)
    have H231 := H230.ct 14 rfl (Zk 24 2 (.slice (some ⟨b228, 0, none⟩) 2 2) 2 (([(⟨Z3 a.n.cl 3, 1 + Z3 a.n.sq 4⟩ : NmD), (⟨1, Z3 a.f 4⟩ : NmD)] : List NmD).flatMap Z1c)) (by rw [(show (([(.int .i64 (Z3 a.n.cl 3)), (.int .i64 (1 + Z3 a.n.sq 4)), (.int .i64 (1)), (.int .i64 (Z3 a.f 4))] : List Value) : List Value) = ([(⟨Z3 a.n.cl 3, 1 + Z3 a.n.sq 4⟩ : NmD), (⟨1, Z3 a.f 4⟩ : NmD)] : List NmD).flatMap Z1c by kernel_rfl)])
    have S232 := H231.pk [0, 1, 2, 3, 4, 5, 6, 7, 8, 9, 10, 11, 12, 13]
    refine kq _ _ S232 ?_
    clear kq Kq
    refine hv0 6 S232 21 (.slice (some ⟨b228, 0, none⟩) 2 2) ?_
    refine zhf ?_
    apply ztn
    apply zsl
    refine wv 163 (pt t 0) ?_
    refine wv 164 (.slice (some ⟨b228, 0, none⟩) 2 2) ?_
    refine zwd fun Kq kq => ?_
    refine zdc 165 (Z7G w229 t tm F 3 rp Mi (H231.fn [0, 1]) (by omega) (some ⟨b228, 0, none⟩) 2 ([(⟨Z3 a.n.cl 3, 1 + Z3 a.n.sq 4⟩ : NmD), (⟨1, Z3 a.f 4⟩ : NmD)] : List NmD) (ListAt.row (enc := Z1c) (sz := 2) Z2l (by decide) (H231.at 14 rfl)) (fun _ ad h1 hf => by cases h1; exact H231.offP [0, 1] 14 rfl rfl (by decide) rfl hf)) ?_
    rintro _ w234 ⟨rfl, T235⟩
    have H236 : Sat w [Z0 t 121 (ZC F rp tm), ZQ tm nmV ceV (([(⟨Z3 a.n.cl 3, 1 + Z3 a.n.sq 4⟩ : NmD), (⟨1, Z3 a.f 4⟩ : NmD)] : List NmD).foldl Z5l Mi), Z0 tr 45 (Zx F rp lai Li.length lci), (Z9 lai Li lci), ZY Bi, Z0 b 110 (Zt mb), (Zc mb Lbi), Z0 r 98 (Zs rai Lbi.length rci), (Zb rai Lbi rci), Z7 w (ZL [Z0 t 121 [.int .i64 F, .int .i64 3, .int .i64 rp, .map (some tm)], ZQ tm nmV ceV M, Z0 tr 45 [.int .i64 F, .int .i64 3, .int .i64 rp, .slice la (L).length lc], (Z9 la L lc), ZY B, Z0 b 110 [.map (some mb)], (Zc mb Lb), Z0 r 98 [.slice ra (Lb).length rc], (Zb ra Lb rc)]).fp, Z0 x5 36 (Zv F), Z0 x8 40 (Zu b r), Z0 x12 55 (ZN a.d a.f a.t a.u a.n.cl a.n.sq a.ta a.xs.length a.tc a.X), Z0 x13 24 (Zo (Z3 a.n.cl 3) (1 + Z3 a.n.sq 4)), Zk 24 2 (.slice (some ⟨b228, 0, none⟩) 2 2) 2 (([(⟨Z3 a.n.cl 3, 1 + Z3 a.n.sq 4⟩ : NmD), (⟨1, Z3 a.f 4⟩ : NmD)] : List NmD).flatMap Z1c)] w234 := (Sat.turnL (L' := [Z0 t 121 (ZC F rp tm), ZQ tm nmV ceV (([(⟨Z3 a.n.cl 3, 1 + Z3 a.n.sq 4⟩ : NmD), (⟨1, Z3 a.f 4⟩ : NmD)] : List NmD).foldl Z5l Mi)]) (R := [Z0 tr 45 (Zx F rp lai Li.length lci), (Z9 lai Li lci), ZY Bi, Z0 b 110 (Zt mb), (Zc mb Lbi), Z0 r 98 (Zs rai Lbi.length rci), (Zb rai Lbi rci), Z7 w (ZL [Z0 t 121 [.int .i64 F, .int .i64 3, .int .i64 rp, .map (some tm)], ZQ tm nmV ceV M, Z0 tr 45 [.int .i64 F, .int .i64 3, .int .i64 rp, .slice la (L).length lc], (Z9 la L lc), ZY B, Z0 b 110 [.map (some mb)], (Zc mb Lb), Z0 r 98 [.slice ra (Lb).length rc], (Zb ra Lb rc)]).fp, Z0 x5 36 (Zv F), Z0 x8 40 (Zu b r), Z0 x12 55 (ZN a.d a.f a.t a.u a.n.cl a.n.sq a.ta a.xs.length a.tc a.X), Z0 x13 24 (Zo (Z3 a.n.cl 3) (1 + Z3 a.n.sq 4)), Zk 24 2 (.slice (some ⟨b228, 0, none⟩) 2 2) 2 (([(⟨Z3 a.n.cl 3, 1 + Z3 a.n.sq 4⟩ : NmD), (⟨1, Z3 a.f 4⟩ : NmD)] : List NmD).flatMap Z1c)]) H231 [0, 1] [2, 3, 4, 5, 6, 7, 8, 9, 10, 11, 12, 13, 14] (by decide) (by kernel_rfl) rfl T235).pk [0, 1, 2, 3, 4, 5, 6, 7, 8, 9, 10, 11, 12, 13, 14]
    refine ⟨_, rfl, ?_⟩
    refine kq _ _ ?_
    clear kq Kq
    refine wv 166 (pt tr 0) ?_
    refine wv 167 (.slice (some ⟨b228, 0, none⟩) 2 2) ?_
    refine zwd fun Kq kq => ?_
    refine zdc 168 (Z8u w234 tr F 3 rp lai lci Li (H236.fn [2, 3]) (by have q := hE.len; omega) (some ⟨b228, 0, none⟩) 2 ([(⟨Z3 a.n.cl 3, 1 + Z3 a.n.sq 4⟩ : NmD), (⟨1, Z3 a.f 4⟩ : NmD)] : List NmD) (ListAt.row (enc := Z1c) (sz := 2) Z2l (by decide) (H236.at 14 rfl)) (fun _ ad h1 hf => by cases h1; exact H236.offP [2, 3] 14 rfl rfl (by decide) rfl hf)) ?_
    rintro _ w238 ⟨a240, c241, rfl, T239⟩
    have H242 := H236.tl [Z0 tr 45 (Zx F rp a240 ((Li.filter (Z6b ([(⟨Z3 a.n.cl 3, 1 + Z3 a.n.sq 4⟩ : NmD), (⟨1, Z3 a.f 4⟩ : NmD)] : List NmD))).length) c241), (Z9 a240 (Li.filter (Z6b ([(⟨Z3 a.n.cl 3, 1 + Z3 a.n.sq 4⟩ : NmD), (⟨1, Z3 a.f 4⟩ : NmD)] : List NmD))) c241)] [2, 3] [0, 1, 4, 5, 6, 7, 8, 9, 10, 11, 12, 13, 14] T239 [2, 3, 0, 1, 4, 5, 6, 7, 8, 9, 10, 11, 12, 13, 14]
    refine ⟨_, rfl, ?_⟩
    have hdr : TabEq Bi (([(⟨Z3 a.n.cl 3, 1 + Z3 a.n.sq 4⟩ : NmD), (⟨1, Z3 a.f 4⟩ : NmD)] : List NmD).foldl Z5l Mi) (Li.filter (Z6b ([(⟨Z3 a.n.cl 3, 1 + Z3 a.n.sq 4⟩ : NmD), (⟨1, Z3 a.f 4⟩ : NmD)] : List NmD))) := hE.drop ([(⟨Z3 a.n.cl 3, 1 + Z3 a.n.sq 4⟩ : NmD), (⟨1, Z3 a.f 4⟩ : NmD)] : List NmD)
    have hdl := List.length_filter_le (Z6b ([(⟨Z3 a.n.cl 3, 1 + Z3 a.n.sq 4⟩ : NmD), (⟨1, Z3 a.f 4⟩ : NmD)] : List NmD)) Li
    have hdL := hdr.len
    have hEL := hE.len
    refine kq _ _ ?_
    clear kq Kq
    refine wv 169 (.bool (!(decide (((Mi.length : Int) - ((([(⟨Z3 a.n.cl 3, 1 + Z3 a.n.sq 4⟩ : NmD), (⟨1, Z3 a.f 4⟩ : NmD)] : List NmD).foldl Z5l Mi).length : Int)) = ((Li.length : Int) - ((Li.filter (Z6b ([(⟨Z3 a.n.cl 3, 1 + Z3 a.n.sq 4⟩ : NmD), (⟨1, Z3 a.f 4⟩ : NmD)] : List NmD))).length : Int)))))) ?_
    apply znt
    have b243 : (!(decide (((Mi.length : Int) - ((([(⟨Z3 a.n.cl 3, 1 + Z3 a.n.sq 4⟩ : NmD), (⟨1, Z3 a.f 4⟩ : NmD)] : List NmD).foldl Z5l Mi).length : Int)) = ((Li.length : Int) - ((Li.filter (Z6b ([(⟨Z3 a.n.cl 3, 1 + Z3 a.n.sq 4⟩ : NmD), (⟨1, Z3 a.f 4⟩ : NmD)] : List NmD))).length : Int))))) = false := by rw [decide_eq_true (by omega)]; rfl
    have g244 := Zj b243
    have g245 := of_decide_eq_true g244
    refine Z1w _ b243 ?_
    apply ZW
    apply Zw
    have H246 := H242.pk [0, 1, 2, 3, 4, 5, 6, 7, 8, 9, 10, 11, 13]
    refine ZX ?_ ⟨(([(⟨Z3 a.n.cl 3, 1 + Z3 a.n.sq 4⟩ : NmD), (⟨1, Z3 a.f 4⟩ : NmD)] : List NmD).foldl Z5l Mi), Bi, (Li.filter (Z6b ([(⟨Z3 a.n.cl 3, 1 + Z3 a.n.sq 4⟩ : NmD), (⟨1, Z3 a.f 4⟩ : NmD)] : List NmD))), a240, c241, Lbi, rai, rci, hdr, (by omega), hn, (by omega), (fun _ h => h), H246⟩
    exact zs
   have g247 := of_decide_eq_false b216
   refine Z1w _ b216 ?_
   apply zsl
   refine wv 171 (.bool (decide ((Z3 a.d 7) = 6))) ?_
   refine wv 170 (.bool (decide ((Z3 a.d 7) = 6))) ?_
   apply znt
   refine (Zr (decide ((Z3 a.d 7) = 6))).elim (fun b249 => ?_) (fun b249 => ?_)
   ·have g250 := of_decide_eq_true b249
    refine Z1V _ b249 ?_
    apply zsl
    refine wv 172 (pt x12 7) ?_
    refine wv 173 (pt x12 44) ?_
    refine zw1 174 (.slice a.X.sa a.X.S.length a.X.sc) (H133.cell 12 rfl (by kernel_rfl)) ?_
    refine zwd fun Kq kq => ?_
    have hlS0 : ListAt Z0q 38 w (.slice a.X.sa a.X.S.length a.X.sc) a.X.S := (hAc a haL).X
    have hlS := SliceOf.le hlS0
    unfold maxLen at hlS
    refine zdc 175 (Zbl w132 a.X.sa a.X.sc a.X.S (ListAt.nowD H133 9 rfl (hAc a haL).X (hAo a haL).S) (by omega) 5 (by decide)) ?_
    rintro _ w253 ⟨u254, rfl, k255, p256, q257⟩
    have H258 : Sat w [Z0 t 121 (ZC F rp tm), ZQ tm nmV ceV Mi, Z0 tr 45 (Zx F rp lai Li.length lci), (Z9 lai Li lci), ZY Bi, Z0 b 110 (Zt mb), (Zc mb Lbi), Z0 r 98 (Zs rai Lbi.length rci), (Zb rai Lbi rci), Z7 w (ZL [Z0 t 121 [.int .i64 F, .int .i64 3, .int .i64 rp, .map (some tm)], ZQ tm nmV ceV M, Z0 tr 45 [.int .i64 F, .int .i64 3, .int .i64 rp, .slice la (L).length lc], (Z9 la L lc), ZY B, Z0 b 110 [.map (some mb)], (Zc mb Lb), Z0 r 98 [.slice ra (Lb).length rc], (Zb ra Lb rc)]).fp, Z0 x5 36 (Zv F), Z0 x8 40 (Zu b r), Z0 x12 55 (ZN a.d a.f a.t a.u a.n.cl a.n.sq a.ta a.xs.length a.tc a.X), Z0 x13 24 (Zo (Z3 a.n.cl 3) (1 + Z3 a.n.sq 4)), Zk 101 38 u254 ((a.X.S.take 5).length) ((a.X.S.take 5).flatMap Z0q)] w253 := H133.addU p256 k255 q257
    obtain ⟨a259, c260, rfl⟩ := Z6 (H258.at 14 rfl)
    refine ⟨_, rfl, ?_⟩
    refine kq _ _ ?_
    clear kq Kq
    refine wv 176 (pt x12 7) ?_
    refine wv 177 (pt x12 44) ?_
    refine zwd fun Kq kq => ?_
    refine zds (Zs a259 ((a.X.S.take 5).length) c260) (Z37 a.d a.f a.t a.u a.n.cl a.n.sq a.ta a.xs.length a.tc a.X.x a259 ((a.X.S.take 5).length) c260) H258 12 ?_
    intro w262 H263
    refine kq _ _ ?_
    clear kq Kq
    apply znt
    obtain ⟨X, hXe⟩ : ∃ X : CeR, X = (⟨a.X.x, a259, c260, a.X.S.take 5⟩ : CeR) := ⟨_, rfl⟩
    have H265 : Sat w [ZY (stC (⟨a.X.x, a259, c260, a.X.S.take 5⟩ : CeR) :: Bi), Z0 t 121 (ZC F rp tm), ZQ tm nmV ceV Mi, Z0 tr 45 (Zx F rp lai Li.length lci), (Z9 lai Li lci), Z0 b 110 (Zt mb), (Zc mb Lbi), Z0 r 98 (Zs rai Lbi.length rci), (Zb rai Lbi rci), Z7 w (ZL [Z0 t 121 [.int .i64 F, .int .i64 3, .int .i64 rp, .map (some tm)], ZQ tm nmV ceV M, Z0 tr 45 [.int .i64 F, .int .i64 3, .int .i64 rp, .slice la (L).length lc], (Z9 la L lc), ZY B, Z0 b 110 [.map (some mb)], (Zc mb Lb), Z0 r 98 [.slice ra (Lb).length rc], (Zb ra Lb rc)]).fp, Z0 x5 36 (Zv F), Z0 x8 40 (Zu b r), Z0 x12 55 (Z37 a.d a.f a.t a.u a.n.cl a.n.sq a.ta a.xs.length a.tc a.X.x a259 ((a.X.S.take 5).length) c260), Z0 x13 24 (Zo (Z3 a.n.cl 3) (1 + Z3 a.n.sq 4))] w262 := (H263.pk [4, 14, 0, 1, 2, 3, 5, 6, 7, 8, 9, 10, 11, 12, 13]).bag
    have H266 := H265.pk [1, 2, 3, 4, 0, 5, 6, 7, 8, 9, 10, 11, 12, 13]
    have H267 : Sat w [Z0 t 121 ([(.int .i64 (F)), (.int .i64 (3)), (.int .i64 (rp)), (.map (some tm))] : List Value), ZQ tm nmV ceV Mi, Z0 tr 45 ([(.int .i64 (F)), (.int .i64 (3)), (.int .i64 (rp)), (.slice lai Li.length lci)] : List Value), Zk 53 38 (.slice lai Li.length lci) Li.length (Li.flatMap Z03), ZY (stC X :: Bi), Z0 b 110 ([(.map (some mb))] : List Value), ZQ mb Zz (Value.int .i64) (ZS Lbi), Z0 r 98 ([(.slice rai Lbi.length rci)] : List Value), Zk 114 2 (.slice rai Lbi.length rci) Lbi.length (Lbi.flatMap Z1N), Z7 w (ZL [Z0 t 121 [.int .i64 F, .int .i64 3, .int .i64 rp, .map (some tm)], ZQ tm nmV ceV M, Z0 tr 45 [.int .i64 F, .int .i64 3, .int .i64 rp, .slice la (L).length lc], Zk 53 38 (.slice la (L).length lc) (L).length ((L).flatMap Z03), ZY B, Z0 b 110 [.map (some mb)], ZQ mb Zz (Value.int .i64) (ZS Lb), Z0 r 98 [.slice ra (Lb).length rc], Zk 114 2 (.slice ra (Lb).length rc) (Lb).length ((Lb).flatMap Z1N)]).fp, Z0 x5 36 ([(.int .i64 (F)), (.int .i64 (3))] : List Value), Z0 x8 40 ([(pt b 0), (pt r 0)] : List Value), Z0 x12 55 (([(.int .i64 (a.d)), (.int .i64 (a.f)), (.int .u64 (a.t)), (.int .u64 (a.u)), (.int .i64 (a.n.cl)), (.int .i64 (a.n.sq)), (.slice a.ta a.xs.length a.tc), (.int .i64 (X.x.cl)), (.int .i64 (X.x.seq))] : List Value) ++ hc X.x.h ++ ([(.int .i64 (X.x.len)), (.int .i64 (X.x.sb)), (.int .i64 (X.x.sm)), (.slice X.sa X.S.length X.sc)] : List Value)), Z0 x13 24 ([(.int .i64 (Z3 a.n.cl 3)), (.int .i64 (1 + Z3 a.n.sq 4))] : List Value)] w262 := by rw [hXe]; exact H266
    have hX : CeT (stC X :: Bi) X := by
     rw [hXe]
     exact ⟨(hAc a haL).x, fun i hi => (hAc a haL).S _ (List.mem_of_mem_take (Z36 hi)), by show (a.X.S.take 5).length ≤ 12; rw [List.length_take]; omega, List.mem_cons_self⟩
    have hE0_ := hE.sub (fun A hA => List.mem_cons_of_mem (stC X) hA)
    replace hE := hE0_
    refine Z0A ([22, 23] ++ List.range' 178 10) (fun G_ W_ => ∃ (x22 : Nat) (s1 : Za) (er : Int) (M1 : List (NmD × CeR)) (B2 : List Ck) (L2 : List Signed), G_ 22 = (pt x22 0) ∧ G_ 23 = (.int .i64 (er)) ∧ (er = Z3a F 3 fl Lbi Mi X) ∧ (er = 0 → s1 = Z9n rp Lbi X ∧ L2 = Zp Lbi (Z9o rp X)) ∧ (¬ er = 0 → L2 = Lbi) ∧ (((M1 = Mi ∧ B2 = (stC X :: Bi) ∧ (er = 0 → (Zm Mi (nmX X)).isSome = true) ∧ (¬ er = 0 → s1 = Ze)) ∨ ((er = 0 ∧ Z0m F 3 Lbi X.x X.S = true) ∧ (Zm Mi (nmX X)).isSome = false ∧ ∃ (sa : Option Addr) (sc : Nat), M1 = Z3q Mi (nmX X) ⟨X.x, sa, sc, X.S⟩ ∧ B2 = stC ⟨X.x, sa, sc, X.S⟩ :: (stC X :: Bi)))) ∧ Sat w [Z0 t 121 (ZC F rp tm), ZQ tm nmV ceV M1, Z0 tr 45 (Zx F rp lai Li.length lci), (Z9 lai Li lci), ZY B2, Z0 b 110 (Zt mb), (Zc mb L2), Z0 r 98 (Zs rai Lbi.length rci), (Zb rai Lbi rci), Z7 w (ZL [Z0 t 121 [.int .i64 F, .int .i64 3, .int .i64 rp, .map (some tm)], ZQ tm nmV ceV M, Z0 tr 45 [.int .i64 F, .int .i64 3, .int .i64 rp, .slice la (L).length lc], (Z9 la L lc), ZY B, Z0 b 110 [.map (some mb)], (Zc mb Lb), Z0 r 98 [.slice ra (Lb).length rc], (Zb ra Lb rc)]).fp, Z0 x5 36 (Zv F), Z0 x8 40 (Zu b r), Z0 x12 55 (ZN a.d a.f a.t a.u a.n.cl a.n.sq a.ta a.xs.length a.tc X), Z0 x13 24 (Zo (Z3 a.n.cl 3) (1 + Z3 a.n.sq 4)), Z0 x22 31 (Z06 s1)] W_) ?_ ?_
    ·apply Zq
     refine wv 179 (pt t 0) ?_
     refine wv 180 (pt x8 0) ?_
     refine zw1 181 (pt b 0) (H267.cell 11 rfl rfl) ?_
     refine wv 182 (.int .u64 (fl)) ?_
     refine wv 183 (pt x12 7) ?_
     refine zwN 184 (Z1d X) (H267.at 12 rfl) ?_
     refine zwd fun Kq kq => ?_
     refine zdc 185 (Z6B w262 t tm F 3 rp Mi (stC X :: Bi) b mb Lbi (H267.fn [0, 1, 4, 5, 6]) hE.ok.T (by omega) (by omega) hn (by omega) (by omega) fl X hX) ?_
     rintro _ w270 ⟨s271, r272, M273, B274, L275, rfl, e276, z277, z278, d279, T280⟩
     have H281 : Sat w [Z0 t 121 (ZC F rp tm), ZQ tm nmV ceV M273, Z0 tr 45 (Zx F rp lai Li.length lci), (Z9 lai Li lci), ZY B274, Z0 b 110 (Zt mb), (Zc mb L275), Z0 r 98 (Zs rai Lbi.length rci), (Zb rai Lbi rci), Z7 w (ZL [Z0 t 121 [.int .i64 F, .int .i64 3, .int .i64 rp, .map (some tm)], ZQ tm nmV ceV M, Z0 tr 45 [.int .i64 F, .int .i64 3, .int .i64 rp, .slice la (L).length lc], (Z9 la L lc), ZY B, Z0 b 110 [.map (some mb)], (Zc mb Lb), Z0 r 98 [.slice ra (Lb).length rc], (Zb ra Lb rc)]).fp, Z0 x5 36 (Zv F), Z0 x8 40 (Zu b r), Z0 x12 55 (ZN a.d a.f a.t a.u a.n.cl a.n.sq a.ta a.xs.length a.tc X), Z0 x13 24 (Zo (Z3 a.n.cl 3) (1 + Z3 a.n.sq 4))] w270 := (Sat.turnL (L' := [Z0 t 121 (ZC F rp tm), ZQ tm nmV ceV M273, ZY B274, Z0 b 110 (Zt mb), (Zc mb L275)]) (R := [Z0 tr 45 (Zx F rp lai Li.length lci), (Z9 lai Li lci), Z0 r 98 (Zs rai Lbi.length rci), (Zb rai Lbi rci), Z7 w (ZL [Z0 t 121 [.int .i64 F, .int .i64 3, .int .i64 rp, .map (some tm)], ZQ tm nmV ceV M, Z0 tr 45 [.int .i64 F, .int .i64 3, .int .i64 rp, .slice la (L).length lc], (Z9 la L lc), ZY B, Z0 b 110 [.map (some mb)], (Zc mb Lb), Z0 r 98 [.slice ra (Lb).length rc], (Zb ra Lb rc)]).fp, Z0 x5 36 (Zv F), Z0 x8 40 (Zu b r), Z0 x12 55 (ZN a.d a.f a.t a.u a.n.cl a.n.sq a.ta a.xs.length a.tc X), Z0 x13 24 (Zo (Z3 a.n.cl 3) (1 + Z3 a.n.sq 4))]) H267 [0, 1, 4, 5, 6] [2, 3, 7, 8, 9, 10, 11, 12, 13] (by decide) (by kernel_rfl) rfl T280).pk [0, 1, 5, 6, 2, 3, 4, 7, 8, 9, 10, 11, 12, 13]
     refine ⟨_, rfl, ?_⟩
     refine kq _ _ ?_
     clear kq Kq
     refine wv 178 (.tuple #[(.agg ⟨(Z06 s271)⟩), (.int .i64 (r272))]) ?_
     refine wv 186 (.agg ⟨(Z06 s271)⟩) ?_
     refine wv 187 (.int .i64 (r272)) ?_
     refine zwd fun Kq kq => ?_
     refine zda (Z2x) H281 ?_
     intro b283 w284 H285
     refine kq _ _ ?_
     clear kq Kq
     refine zwd fun Kq kq => ?_
     refine Z1F (Z06 s271) H285 14 ?_
     intro w287 (H288 : Sat w [Z0 t 121 (ZC F rp tm), ZQ tm nmV ceV M273, Z0 tr 45 (Zx F rp lai Li.length lci), (Z9 lai Li lci), ZY B274, Z0 b 110 (Zt mb), (Zc mb L275), Z0 r 98 (Zs rai Lbi.length rci), (Zb rai Lbi rci), Z7 w (ZL [Z0 t 121 [.int .i64 F, .int .i64 3, .int .i64 rp, .map (some tm)], ZQ tm nmV ceV M, Z0 tr 45 [.int .i64 F, .int .i64 3, .int .i64 rp, .slice la (L).length lc], (Z9 la L lc), ZY B, Z0 b 110 [.map (some mb)], (Zc mb Lb), Z0 r 98 [.slice ra (Lb).length rc], (Zb ra Lb rc)]).fp, Z0 x5 36 (Zv F), Z0 x8 40 (Zu b r), Z0 x12 55 (ZN a.d a.f a.t a.u a.n.cl a.n.sq a.ta a.xs.length a.tc X), Z0 x13 24 (Zo (Z3 a.n.cl 3) (1 + Z3 a.n.sq 4)), Z0 b283 31 (Z06 s271)] w287)
     refine kq _ _ ?_
     clear kq Kq
     refine wv 23 (.int .i64 (r272)) ?_
     apply Zn
     have H290 := H288.pk [0, 1, 2, 3, 4, 5, 6, 7, 8, 9, 10, 11, 12, 13, 14]
     refine ZX ?_ ⟨b283, s271, r272, M273, B274, L275, rfl, rfl, e276, z277, z278, d279, H290⟩
     exact zs
    rintro f291 w292 ⟨x22, s1, er, M1, B2, L2, v294, v295, hk1, hk2, hk3, hk4, H293⟩
    refine Zl 22 _ v294 ?_
    refine Zl 23 _ v295 ?_
    have hE0 := hE
    have hB1 : ∀ A ∈ (stC X :: Bi), A ∈ B2 := fun A hA => by rcases hk4 with ⟨_, q, _⟩ | ⟨_, _, _, _, _, q⟩ <;> rw [q] <;> simp [hA]
    refine Z0A ([24, 25] ++ List.range' 188 10) (fun G_ W_ => ∃ (x24 : Nat) (L1 : List CeR) (la1 : Option Addr) (lc1 : Nat) (ra2 : Option Addr) (rc2 : Nat), G_ 24 = (pt x24 0) ∧ G_ 25 = (.int .i64 (er)) ∧ (TabEq B2 M1 L1) ∧ (∀ A ∈ (stC X :: Bi), A ∈ B2) ∧ (M1.length ≤ 64) ∧ (L2.Nodup) ∧ (L2.length ≤ Lbi.length + 1) ∧ Sat w [Z0 t 121 (ZC F rp tm), ZQ tm nmV ceV M1, Z0 tr 45 (Zx F rp la1 L1.length lc1), (Z9 la1 L1 lc1), ZY B2, Z0 b 110 (Zt mb), (Zc mb L2), Z0 r 98 (Zs ra2 L2.length rc2), (Zb ra2 L2 rc2), Z7 w (ZL [Z0 t 121 [.int .i64 F, .int .i64 3, .int .i64 rp, .map (some tm)], ZQ tm nmV ceV M, Z0 tr 45 [.int .i64 F, .int .i64 3, .int .i64 rp, .slice la (L).length lc], (Z9 la L lc), ZY B, Z0 b 110 [.map (some mb)], (Zc mb Lb), Z0 r 98 [.slice ra (Lb).length rc], (Zb ra Lb rc)]).fp, Z0 x5 36 (Zv F), Z0 x8 40 (Zu b r), Z0 x12 55 (ZN a.d a.f a.t a.u a.n.cl a.n.sq a.ta a.xs.length a.tc X), Z0 x13 24 (Zo (Z3 a.n.cl 3) (1 + Z3 a.n.sq 4)), Z0 x22 31 (Z06 s1), Z0 x24 31 (Z06 s1)] W_) ?_ ?_
    ·apply Zq
     refine wv 189 (pt tr 0) ?_
     refine wv 190 (pt x8 1) ?_
     refine zw1 191 (pt r 0) (H293.cell 11 rfl rfl) ?_
     refine wv 192 (.int .u64 (fl)) ?_
     refine wv 193 (pt x12 7) ?_
     refine zwN 194 (Z1d X) (H293.at 12 rfl) ?_
     refine zwd fun Kq kq => ?_
     refine zdc 195 (Z7S w292 tr F 3 rp lai lci Li B2 r rai rci Lbi (H293.fn [2, 3, 4, 7, 8]) (by have q := hE0.len; omega) (fun c hc_ => (hE0.ct c hc_).sub hB1) (by omega) hn (by omega) (by omega) fl X (hX.sub hB1)) ?_
     rintro _ w298 ⟨s299, r300, a301, c302, L303, a304, c305, L306, rfl, e307, z308, z309, d310, T311⟩
     have H312 := H293.tl [Z0 tr 45 (Zx F rp a301 L303.length c302), (Z9 a301 L303 c302), ZY B2, Z0 r 98 (Zs a304 L306.length c305), (Zb a304 L306 c305)] [2, 3, 4, 7, 8] [0, 1, 5, 6, 9, 10, 11, 12, 13, 14] T311 [5, 6, 0, 1, 2, 7, 8, 3, 4, 9, 10, 11, 12, 13, 14]
     refine ⟨_, rfl, ?_⟩
     refine kq _ _ ?_
     clear kq Kq
     refine wv 188 (.tuple #[(.agg ⟨(Z06 s299)⟩), (.int .i64 (r300))]) ?_
     refine wv 196 (.agg ⟨(Z06 s299)⟩) ?_
     refine wv 197 (.int .i64 (r300)) ?_
     refine zwd fun Kq kq => ?_
     refine zda (Z2x) H312 ?_
     intro b314 w315 (H316 : Sat w [Z0 t 121 (ZC F rp tm), ZQ tm nmV ceV M1, Z0 tr 45 (Zx F rp a301 L303.length c302), (Z9 a301 L303 c302), ZY B2, Z0 b 110 (Zt mb), (Zc mb L2), Z0 r 98 (Zs a304 L306.length c305), (Zb a304 L306 c305), Z7 w (ZL [Z0 t 121 [.int .i64 F, .int .i64 3, .int .i64 rp, .map (some tm)], ZQ tm nmV ceV M, Z0 tr 45 [.int .i64 F, .int .i64 3, .int .i64 rp, .slice la (L).length lc], (Z9 la L lc), ZY B, Z0 b 110 [.map (some mb)], (Zc mb Lb), Z0 r 98 [.slice ra (Lb).length rc], (Zb ra Lb rc)]).fp, Z0 x5 36 (Zv F), Z0 x8 40 (Zu b r), Z0 x12 55 (ZN a.d a.f a.t a.u a.n.cl a.n.sq a.ta a.xs.length a.tc X), Z0 x13 24 (Zo (Z3 a.n.cl 3) (1 + Z3 a.n.sq 4)), Z0 x22 31 (Z06 s1), Z0 b314 31 (Z2x)] w315)
     refine kq _ _ ?_
     clear kq Kq
     refine zwd fun Kq kq => ?_
     refine Z1F (Z06 s299) H316 15 ?_
     intro w318 H319
     refine kq _ _ ?_
     clear kq Kq
     refine wv 25 (.int .i64 (r300)) ?_
     apply Zn
     have H321 := H319.pk [0, 1, 2, 3, 4, 5, 6, 7, 8, 9, 10, 11, 12, 13, 14, 15]
     obtain ⟨her, hse, hLe, ⟨hE2, hsb, hl2⟩, hnd2, hll2⟩ := Z7i hE hX (by omega) hn hk1 hk2 hk3 hk4 e307 z308 z309 d310
     have H322 : Sat w [Z0 t 121 ([(.int .i64 (F)), (.int .i64 (3)), (.int .i64 (rp)), (.map (some tm))] : List Value), ZQ tm nmV ceV M1, Z0 tr 45 ([(.int .i64 (F)), (.int .i64 (3)), (.int .i64 (rp)), (.slice a301 L303.length c302)] : List Value), Zk 53 38 (.slice a301 L303.length c302) L303.length (L303.flatMap Z03), ZY B2, Z0 b 110 ([(.map (some mb))] : List Value), ZQ mb Zz (Value.int .i64) (ZS L2), Z0 r 98 ([(.slice a304 L2.length c305)] : List Value), Zk 114 2 (.slice a304 L2.length c305) L2.length (L2.flatMap Z1N), Z7 w (ZL [Z0 t 121 [.int .i64 F, .int .i64 3, .int .i64 rp, .map (some tm)], ZQ tm nmV ceV M, Z0 tr 45 [.int .i64 F, .int .i64 3, .int .i64 rp, .slice la (L).length lc], Zk 53 38 (.slice la (L).length lc) (L).length ((L).flatMap Z03), ZY B, Z0 b 110 [.map (some mb)], ZQ mb Zz (Value.int .i64) (ZS Lb), Z0 r 98 [.slice ra (Lb).length rc], Zk 114 2 (.slice ra (Lb).length rc) (Lb).length ((Lb).flatMap Z1N)]).fp, Z0 x5 36 ([(.int .i64 (F)), (.int .i64 (3))] : List Value), Z0 x8 40 ([(pt b 0), (pt r 0)] : List Value), Z0 x12 55 (([(.int .i64 (a.d)), (.int .i64 (a.f)), (.int .u64 (a.t)), (.int .u64 (a.u)), (.int .i64 (a.n.cl)), (.int .i64 (a.n.sq)), (.slice a.ta a.xs.length a.tc), (.int .i64 (X.x.cl)), (.int .i64 (X.x.seq))] : List Value) ++ hc X.x.h ++ ([(.int .i64 (X.x.len)), (.int .i64 (X.x.sb)), (.int .i64 (X.x.sm)), (.slice X.sa X.S.length X.sc)] : List Value)), Z0 x13 24 ([(.int .i64 (Z3 a.n.cl 3)), (.int .i64 (1 + Z3 a.n.sq 4))] : List Value), Z0 x22 31 (([(.int .i64 (s1.r)), (.int .i64 (s1.cl)), (.int .i64 (s1.seq))] : List Value) ++ hc s1.h ++ ([(.int .u64 (s1.t)), (.int .i64 (s1.sb)), (.int .i64 (s1.sm))] : List Value)), Z0 b314 31 (([(.int .i64 (s1.r)), (.int .i64 (s1.cl)), (.int .i64 (s1.seq))] : List Value) ++ hc s1.h ++ ([(.int .u64 (s1.t)), (.int .i64 (s1.sb)), (.int .i64 (s1.sm))] : List Value))] w318 := by have q_ := H321; rw [hse, hLe] at q_; exact q_
     refine ZX ?_ ⟨b314, L303, a301, c302, a304, c305, rfl, (show ((.int .i64 (r300)) : Value) = _ by rw [her]), hE2, hsb, hl2, hnd2, hll2, H322⟩
     exact zs
    rintro f323 w324 ⟨x24, L1, la1, lc1, ra2, rc2, v326, v327, hE1, hB2, hl1, hn2, hll2, H325⟩
    refine Zl 24 _ v326 ?_
    refine Zl 25 _ v327 ?_
    apply zsl
    refine zwN 198 (Z06 s1) (H325.at 14 rfl) ?_
    refine zwN 199 (Z06 s1) (H325.at 15 rfl) ?_
    refine wv 200 (.bool (!(decide (s1 = s1)))) ?_ (hr := akF.e_ne s1 s1 rfl rfl)
    refine wv 201 (.bool (!(decide (s1 = s1)))) ?_
    have b328 : (!(decide (s1 = s1))) = false := by rw [decide_eq_true rfl]; rfl
    refine ZJ 201 (.bool false) (congrArg Value.bool b328) ?_
    have g329 := Zj b328
    have g330 := of_decide_eq_true g329
    refine wy 3 201 false 202 (.int .i64 (er)) ?_
    refine wy 3 201 false 203 (.int .i64 (er)) ?_
    refine wy 3 201 false 204 (.bool (!(decide (er = er)))) ?_
    refine wv 205 (.bool (!(decide (er = er)))) ?_
    apply znt
    have b331 : (!(decide (er = er))) = false := by rw [decide_eq_true rfl]; rfl
    have g332 := Zj b331
    have g333 := of_decide_eq_true g332
    refine Z1w _ b331 ?_
    apply ZW
    apply Zw
    have H334 := H325.pk [0, 1, 2, 3, 4, 5, 6, 7, 8, 9, 10, 11, 13]
    refine ZX ?_ ⟨M1, B2, L1, la1, lc1, L2, ra2, rc2, hE1, hl1, hn2, (by omega), (fun A hA => hB2 A (List.mem_cons_of_mem _ hA)), H334⟩
    exact zs
   have g335 := of_decide_eq_false b249
   refine Z1w _ b249 ?_
   have hnil : ([] : List Signed).length = 0 := rfl
   refine Z0A ([26] ++ List.range' 69 16) (fun G_ W_ => ∃ (x26 : Nat) (X : CeR) (L0 : List Signed) (ra0 : Option Addr) (rc0 : Nat), G_ 26 = (pt x26 0) ∧ (CeT (stC X :: Bi) X) ∧ (L0.Nodup) ∧ (L0.length ≤ Lbi.length + 12) ∧ Sat w [Z0 t 121 (ZC F rp tm), ZQ tm nmV ceV Mi, Z0 tr 45 (Zx F rp lai Li.length lci), (Z9 lai Li lci), ZY (stC X :: Bi), Z0 b 110 (Zt mb), (Zc mb L0), Z0 r 98 (Zs ra0 L0.length rc0), (Zb ra0 L0 rc0), Z7 w (ZL [Z0 t 121 [.int .i64 F, .int .i64 3, .int .i64 rp, .map (some tm)], ZQ tm nmV ceV M, Z0 tr 45 [.int .i64 F, .int .i64 3, .int .i64 rp, .slice la (L).length lc], (Z9 la L lc), ZY B, Z0 b 110 [.map (some mb)], (Zc mb Lb), Z0 r 98 [.slice ra (Lb).length rc], (Zb ra Lb rc)]).fp, Z0 x5 36 (Zv F), Z0 x8 40 (Zu b r), Z0 x12 55 (ZN a.d a.f a.t a.u a.n.cl a.n.sq a.ta a.xs.length a.tc a.X), Z0 x13 24 (Zo (Z3 a.n.cl 3) (1 + Z3 a.n.sq 4)), Z0 x26 53 (Z1d X)] W_) ?_ ?_
   ·refine Z08 H133 [Z7 w (ZL [Z0 t 121 [.int .i64 F, .int .i64 3, .int .i64 rp, .map (some tm)], ZQ tm nmV ceV M, Z0 tr 45 [.int .i64 F, .int .i64 3, .int .i64 rp, .slice la (L).length lc], (Z9 la L lc), ZY B, Z0 b 110 [.map (some mb)], (Zc mb Lb), Z0 r 98 [.slice ra (Lb).length rc], (Zb ra Lb rc)]).fp, Z0 x5 36 (Zv F), Z0 x8 40 (Zu b r), Z0 x12 55 (ZN a.d a.f a.t a.u a.n.cl a.n.sq a.ta a.xs.length a.tc a.X), Z0 x13 24 (Zo (Z3 a.n.cl 3) (1 + Z3 a.n.sq 4))] 18 rfl (by kernel_rfl) (fun Hx => (Hx.pk [9, 10, 11, 12, 13])) ?_
    intro w338 H339 S340
    refine hv0 0 S340 69 (.agg ⟨(Zu b r)⟩) ?_ (he := fun _ H' => (Zi (vs := (Zu b r)) rfl (by kernel_rfl) (by kernel_rfl) (by exact Nat.le_of_ble_eq_true (by kernel_rfl)) (H'.at 2 rfl) (by kernel_rfl)))
    refine hv0 1 S340 70 (.agg ⟨(Zv F)⟩) ?_ (he := fun _ H' => (Zi (vs := (Zv F)) rfl (by kernel_rfl) (by kernel_rfl) (by exact Nat.le_of_ble_eq_true (by kernel_rfl)) (H'.at 1 rfl) (by kernel_rfl)))
    refine hv0 2 S340 71 (.agg ⟨(Zu b r)⟩) ?_ (he := fun _ H' => (Zi (vs := (Zu b r)) rfl (by kernel_rfl) (by kernel_rfl) (by exact Nat.le_of_ble_eq_true (by kernel_rfl)) (H'.at 2 rfl) (by kernel_rfl)))
    refine hv0 3 S340 72 (.agg ⟨(Zo (Z3 a.n.cl 3) (1 + Z3 a.n.sq 4))⟩) ?_ (he := fun _ H' => (Zi (vs := (Zo (Z3 a.n.cl 3) (1 + Z3 a.n.sq 4))) rfl (by kernel_rfl) (by kernel_rfl) (by exact Nat.le_of_ble_eq_true (by kernel_rfl)) (H'.at 4 rfl) (by kernel_rfl)))
    refine hv0 4 S340 73 (pt x12 1) ?_
    refine hv0 5 S340 74 (.int .i64 (a.f)) ?_ (he := fun _ H' => (Z8 rfl (by kernel_rfl) (H'.cell 3 rfl (by kernel_rfl))))
    refine hv0 6 S340 75 (.int .i64 (Int.tmod a.f 7)) ?_ (he := fun _ H' => (Zc1 (by kernel_rfl) (by omega)))
    refine hv0 7 S340 76 (.int .i64 (Int.tdiv (Int.tmod a.f 7) 6)) ?_ (he := fun _ H' => (e_tdiv (by kernel_rfl) (by omega) (ZbU (by omega) (by omega))))
    refine hv0 8 S340 77 (.int .u8 (IntKind.u8.wrap (Int.tdiv (Int.tmod a.f 7) 6))) ?_
    refine hv0 11 S340 80 (pt x12 1) ?_
    refine hv0 12 S340 81 (.int .i64 (a.f)) ?_ (he := fun _ H' => (Z8 rfl (by kernel_rfl) (H'.cell 3 rfl (by kernel_rfl))))
    refine hv0 13 S340 82 (pt x12 6) ?_
    refine hv0 14 S340 83 (.slice a.ta a.xs.length a.tc) ?_ (he := fun _ H' => (Z8 rfl (by kernel_rfl) (H'.cell 3 rfl (by kernel_rfl))))
    refine Z69 9 16 rfl rfl (by kernel_rfl) (Z1 rfl) (Z1 rfl) (fun Kq kq => ?_) (fun Kq kq => ?_)
    ·refine Z45 5 1 1 (.int .u8 (0)) [(0, (.int .u8 (IntKind.u8.wrap (Int.tdiv (Int.tmod a.f 7) 6))))] ([(.int .u8 (IntKind.u8.wrap (Int.tdiv (Int.tmod a.f 7) 6)))] : List Value) H339 ?_
     intro b342 w343 (H344 : Sat w [Z0 t 121 (ZC F rp tm), ZQ tm nmV ceV Mi, Z0 tr 45 (Zx F rp lai Li.length lci), (Z9 lai Li lci), ZY Bi, Z0 b 110 (Zt mb), (Zc mb Lbi), Z0 r 98 (Zs rai Lbi.length rci), (Zb rai Lbi rci), Z7 w (ZL [Z0 t 121 [.int .i64 F, .int .i64 3, .int .i64 rp, .map (some tm)], ZQ tm nmV ceV M, Z0 tr 45 [.int .i64 F, .int .i64 3, .int .i64 rp, .slice la (L).length lc], (Z9 la L lc), ZY B, Z0 b 110 [.map (some mb)], (Zc mb Lb), Z0 r 98 [.slice ra (Lb).length rc], (Zb ra Lb rc)]).fp, Z0 x5 36 (Zv F), Z0 x8 40 (Zu b r), Z0 x12 55 (ZN a.d a.f a.t a.u a.n.cl a.n.sq a.ta a.xs.length a.tc a.X), Z0 x13 24 (Zo (Z3 a.n.cl 3) (1 + Z3 a.n.sq 4)), Zk 5 1 (.slice (some ⟨b342, 0, none⟩) 1 1) 1 ([(.int .u8 (IntKind.u8.wrap (Int.tdiv (Int.tmod a.f 7) 6)))] : List Value)] w343)
     have H345 := H344.ct 14 rfl (Zk 5 1 (.slice (some ⟨b342, 0, none⟩) 1 1) 1 ([UInt8.ofNat (IntKind.u8.wrap (Int.tdiv (Int.tmod a.f 7) 6)).toNat].flatMap ZE)) (by rw [Z3f (by have q_ := Zcm ((Int.tdiv (Int.tmod a.f 7) 6)); omega)])
     have S346 := H345.pk [9, 10, 11, 12, 13]
     refine kq _ _ S346 ?_
     clear kq Kq
     refine Z69 10 16 rfl rfl (by kernel_rfl) (Z1 rfl) (Z1 rfl) (fun Kq kq => ?_) (fun Kq kq => ?_)
     ·refine zdc 79 (Z3v w343 b mb r rai rci Lbi (H345.fn [5, 6, 7, 8]) (Z3 a.n.cl 3) (1 + Z3 a.n.sq 4) (some ⟨b342, 0, none⟩) 1 ([UInt8.ofNat (IntKind.u8.wrap (Int.tdiv (Int.tmod a.f 7) 6)).toNat]) (ListAt.row (enc := ZE) (sz := 1) ZR (by decide) (H345.at 14 rfl)) (Z8r (e := 5) (k := 1) (xs := (([UInt8.ofNat (IntKind.u8.wrap (Int.tdiv (Int.tmod a.f 7) 6)).toNat]).flatMap ZE)) (n := 1) (c := 1) (fun b_ hb_ => H345.offP [5, 6, 7, 8] 14 rfl rfl (by decide) hb_)) (Nat.le_of_ble_eq_true rfl) (by omega) (by omega) (by omega) hn) ?_
      rintro _ w348 ⟨a350, c351, rfl, T349⟩
      obtain ⟨L353, hL353⟩ : ∃ L353 : List Signed, L353 = Zp Lbi (yC (Z3 a.n.cl 3) (1 + Z3 a.n.sq 4) Z04 ([UInt8.ofNat (IntKind.u8.wrap (Int.tdiv (Int.tmod a.f 7) 6)).toNat])) := ⟨_, rfl⟩
      rw [← hL353] at T349
      have H354 : Sat w [Z0 t 121 (ZC F rp tm), ZQ tm nmV ceV Mi, Z0 tr 45 (Zx F rp lai Li.length lci), (Z9 lai Li lci), ZY Bi, Z0 b 110 (Zt mb), (Zc mb L353), Z0 r 98 (Zs a350 L353.length c351), (Zb a350 L353 c351), Z7 w (ZL [Z0 t 121 [.int .i64 F, .int .i64 3, .int .i64 rp, .map (some tm)], ZQ tm nmV ceV M, Z0 tr 45 [.int .i64 F, .int .i64 3, .int .i64 rp, .slice la (L).length lc], (Z9 la L lc), ZY B, Z0 b 110 [.map (some mb)], (Zc mb Lb), Z0 r 98 [.slice ra (Lb).length rc], (Zb ra Lb rc)]).fp, Z0 x5 36 (Zv F), Z0 x8 40 (Zu b r), Z0 x12 55 (ZN a.d a.f a.t a.u a.n.cl a.n.sq a.ta a.xs.length a.tc a.X), Z0 x13 24 (Zo (Z3 a.n.cl 3) (1 + Z3 a.n.sq 4)), Zk 5 1 (.slice (some ⟨b342, 0, none⟩) 1 1) 1 ([UInt8.ofNat (IntKind.u8.wrap (Int.tdiv (Int.tmod a.f 7) 6)).toNat].flatMap ZE)] w348 := (Sat.turnL (L' := [Z0 b 110 (Zt mb), (Zc mb L353), Z0 r 98 (Zs a350 L353.length c351), (Zb a350 L353 c351)]) (R := [Z0 t 121 (ZC F rp tm), ZQ tm nmV ceV Mi, Z0 tr 45 (Zx F rp lai Li.length lci), (Z9 lai Li lci), ZY Bi, Z7 w (ZL [Z0 t 121 [.int .i64 F, .int .i64 3, .int .i64 rp, .map (some tm)], ZQ tm nmV ceV M, Z0 tr 45 [.int .i64 F, .int .i64 3, .int .i64 rp, .slice la (L).length lc], (Z9 la L lc), ZY B, Z0 b 110 [.map (some mb)], (Zc mb Lb), Z0 r 98 [.slice ra (Lb).length rc], (Zb ra Lb rc)]).fp, Z0 x5 36 (Zv F), Z0 x8 40 (Zu b r), Z0 x12 55 (ZN a.d a.f a.t a.u a.n.cl a.n.sq a.ta a.xs.length a.tc a.X), Z0 x13 24 (Zo (Z3 a.n.cl 3) (1 + Z3 a.n.sq 4)), Zk 5 1 (.slice (some ⟨b342, 0, none⟩) 1 1) 1 ([UInt8.ofNat (IntKind.u8.wrap (Int.tdiv (Int.tmod a.f 7) 6)).toNat].flatMap ZE)]) H345 [5, 6, 7, 8] [0, 1, 2, 3, 4, 9, 10, 11, 12, 13, 14] (by decide) (by kernel_rfl) rfl T349).pk [4, 5, 6, 7, 8, 0, 1, 2, 3, 9, 10, 11, 12, 13, 14]
      refine ⟨_, rfl, ?_⟩
      obtain ⟨Y352, hY352⟩ : ∃ Y352 : Zg, Y352 = mkC Lbi (Z3 a.n.cl 3) (1 + Z3 a.n.sq 4) Z04 ([UInt8.ofNat (IntKind.u8.wrap (Int.tdiv (Int.tmod a.f 7) 6)).toNat]) := ⟨_, rfl⟩
      rw [← hY352]
      have hgY352 : Z9V L353 Y352 := by rw [hL353, hY352]; exact Z5A _ _ _ _ _
      have ndL353 : L353.Nodup := by rw [hL353]; exact Z20 hn _
      have llL353 : L353.length ≤ Lbi.length + 1 := by rw [hL353]; exact Z2a _ _
      have clY352 : Y352.cl = Z3 a.n.cl 3 := by rw [hY352]; rfl
      have sqY352 : Y352.seq = 1 + Z3 a.n.sq 4 := by rw [hY352]; rfl
      have lnY352 : Y352.len = ([UInt8.ofNat (IntKind.u8.wrap (Int.tdiv (Int.tmod a.f 7) 6)).toNat]).length := by rw [hY352]; rfl
      have S355 := H354.pk [9, 10, 11, 12, 13]
      refine kq _ _ S355 ?_
      clear kq Kq
      refine Z69 15 16 rfl rfl (by kernel_rfl) (Z1 rfl) (Z1 rfl) (fun Kq kq => ?_) (fun Kq kq => ?_)
      ·refine zdc 84 (Z3N w348 b mb r a350 c351 L353 (H354.fn [5, 6, 7, 8]) F 3 (by omega) Y352 ⟨by omega, by omega, by simp only [List.length_cons, List.length_nil] at lnY352; omega⟩ a.f (by omega) ndL353 a.ta a.tc a.xs (ListAt.nowD H354 9 rfl (hAc a haL).xs (hAo a haL).xs) (hAc a haL).b (Z4w Z1v (by decide) H354 [5, 6, 7, 8] 9 rfl rfl (by decide) (hAc a haL).xs (hAo a haL).xs)) ?_
       rintro _ w357 ⟨a358, c359, L360, a361, c362, D363, rfl, l367, k364, n365, l366, p368, T369⟩
       have H370 := H354.tl [Z0 b 110 (Zt mb), (Zc mb L360), Z0 r 98 (Zs a358 L360.length c359), (Zb a358 L360 c359), (Z1s a361 D363 c362)] [5, 6, 7, 8] [0, 1, 2, 3, 4, 9, 10, 11, 12, 13, 14] T369 [5, 6, 7, 8, 9, 0, 1, 2, 3, 10, 11, 12, 13, 14, 15, 4]
       have H371 : Sat w [ZY (stC (⟨Y352, a361, c362, D363⟩ : CeR) :: Bi), Z0 t 121 (ZC F rp tm), ZQ tm nmV ceV Mi, Z0 tr 45 (Zx F rp lai Li.length lci), (Z9 lai Li lci), Z0 b 110 (Zt mb), (Zc mb L360), Z0 r 98 (Zs a358 L360.length c359), (Zb a358 L360 c359), Z7 w (ZL [Z0 t 121 [.int .i64 F, .int .i64 3, .int .i64 rp, .map (some tm)], ZQ tm nmV ceV M, Z0 tr 45 [.int .i64 F, .int .i64 3, .int .i64 rp, .slice la (L).length lc], (Z9 la L lc), ZY B, Z0 b 110 [.map (some mb)], (Zc mb Lb), Z0 r 98 [.slice ra (Lb).length rc], (Zb ra Lb rc)]).fp, Z0 x5 36 (Zv F), Z0 x8 40 (Zu b r), Z0 x12 55 (ZN a.d a.f a.t a.u a.n.cl a.n.sq a.ta a.xs.length a.tc a.X), Z0 x13 24 (Zo (Z3 a.n.cl 3) (1 + Z3 a.n.sq 4)), Zk 5 1 (.slice (some ⟨b342, 0, none⟩) 1 1) 1 ([UInt8.ofNat (IntKind.u8.wrap (Int.tdiv (Int.tmod a.f 7) 6)).toNat].flatMap ZE)] w357 := (H370.pk [4, 15, 0, 1, 2, 3, 5, 6, 7, 8, 9, 10, 11, 12, 13, 14]).bag
       have H372 := H371.pk [1, 2, 3, 4, 0, 5, 6, 7, 8, 9, 10, 11, 12, 13, 14]
       have hXn : CeT (stC (⟨Y352, a361, c362, D363⟩ : CeR) :: Bi) (⟨Y352, a361, c362, D363⟩ : CeR) := ⟨Z4k (c := Y352) hgY352 (by omega) (by omega) (by simp only [List.length_cons, List.length_nil] at lnY352; omega) (by omega), (fun i hi => k364 _ (Z36 hi)), (by show D363.length ≤ 12; omega), List.mem_cons_self⟩
       refine ⟨_, rfl, ?_⟩
       have S373 := H372.pk [9, 10, 11, 12, 13]
       refine kq _ _ S373 ?_
       clear kq Kq
       refine Z0j 16 fun Kq kq => ?_
       refine zda (Z0t) H372 ?_
       intro b375 w376 (H377 : Sat w [Z0 t 121 (ZC F rp tm), ZQ tm nmV ceV Mi, Z0 tr 45 (Zx F rp lai Li.length lci), (Z9 lai Li lci), ZY (stC (⟨Y352, a361, c362, D363⟩ : CeR) :: Bi), Z0 b 110 (Zt mb), (Zc mb L360), Z0 r 98 (Zs a358 L360.length c359), (Zb a358 L360 c359), Z7 w (ZL [Z0 t 121 [.int .i64 F, .int .i64 3, .int .i64 rp, .map (some tm)], ZQ tm nmV ceV M, Z0 tr 45 [.int .i64 F, .int .i64 3, .int .i64 rp, .slice la (L).length lc], (Z9 la L lc), ZY B, Z0 b 110 [.map (some mb)], (Zc mb Lb), Z0 r 98 [.slice ra (Lb).length rc], (Zb ra Lb rc)]).fp, Z0 x5 36 (Zv F), Z0 x8 40 (Zu b r), Z0 x12 55 (ZN a.d a.f a.t a.u a.n.cl a.n.sq a.ta a.xs.length a.tc a.X), Z0 x13 24 (Zo (Z3 a.n.cl 3) (1 + Z3 a.n.sq 4)), Zk 5 1 (.slice (some ⟨b342, 0, none⟩) 1 1) 1 ([UInt8.ofNat (IntKind.u8.wrap (Int.tdiv (Int.tmod a.f 7) 6)).toNat].flatMap ZE), Z0 b375 53 (Z0t)] w376)
       have S378 := H377.pk [9, 10, 11, 12, 13]
       refine kq _ _ S378 ?_
       clear kq Kq
       refine Z0j 17 fun Kq kq => ?_
       refine Z1F (Z0x Y352 a361 D363.length c362) H377 15 ?_
       intro w380 H381
       have S383 := H381.pk [9, 10, 11, 12, 13]
       refine kq _ _ S383 ?_
       clear kq Kq
       refine zhf ?_
       have H384 := H381.pk [0, 1, 2, 3, 4, 5, 6, 7, 8, 9, 10, 11, 12, 13, 15]
       refine ZX ?_ ⟨b375, (⟨Y352, a361, c362, D363⟩ : CeR), L360, a358, c359, rfl, hXn, n365, (by omega), H384⟩
       exact zs
      refine zda (Z0t) H354 ?_
      intro b385 w386 (H387 : Sat w [Z0 t 121 (ZC F rp tm), ZQ tm nmV ceV Mi, Z0 tr 45 (Zx F rp lai Li.length lci), (Z9 lai Li lci), ZY Bi, Z0 b 110 (Zt mb), (Zc mb L353), Z0 r 98 (Zs a350 L353.length c351), (Zb a350 L353 c351), Z7 w (ZL [Z0 t 121 [.int .i64 F, .int .i64 3, .int .i64 rp, .map (some tm)], ZQ tm nmV ceV M, Z0 tr 45 [.int .i64 F, .int .i64 3, .int .i64 rp, .slice la (L).length lc], (Z9 la L lc), ZY B, Z0 b 110 [.map (some mb)], (Zc mb Lb), Z0 r 98 [.slice ra (Lb).length rc], (Zb ra Lb rc)]).fp, Z0 x5 36 (Zv F), Z0 x8 40 (Zu b r), Z0 x12 55 (ZN a.d a.f a.t a.u a.n.cl a.n.sq a.ta a.xs.length a.tc a.X), Z0 x13 24 (Zo (Z3 a.n.cl 3) (1 + Z3 a.n.sq 4)), Zk 5 1 (.slice (some ⟨b342, 0, none⟩) 1 1) 1 ([UInt8.ofNat (IntKind.u8.wrap (Int.tdiv (Int.tmod a.f 7) 6)).toNat].flatMap ZE), Z0 b385 53 (Z0t)] w386)
      have S388 := H387.pk [9, 10, 11, 12, 13]
      refine kq _ _ S388 ?_
      clear kq Kq
      refine Z0j 15 fun Kq kq => ?_
      refine zdc 84 (Z3N w386 b mb r a350 c351 L353 (H387.fn [5, 6, 7, 8]) F 3 (by omega) Y352 ⟨by omega, by omega, by simp only [List.length_cons, List.length_nil] at lnY352; omega⟩ a.f (by omega) ndL353 a.ta a.tc a.xs (ListAt.nowD H387 9 rfl (hAc a haL).xs (hAo a haL).xs) (hAc a haL).b (Z4w Z1v (by decide) H387 [5, 6, 7, 8] 9 rfl rfl (by decide) (hAc a haL).xs (hAo a haL).xs)) ?_
      rintro _ w390 ⟨a391, c392, L393, a394, c395, D396, rfl, l400, k397, n398, l399, p401, T402⟩
      have H403 := H387.tl [Z0 b 110 (Zt mb), (Zc mb L393), Z0 r 98 (Zs a391 L393.length c392), (Zb a391 L393 c392), (Z1s a394 D396 c395)] [5, 6, 7, 8] [0, 1, 2, 3, 4, 9, 10, 11, 12, 13, 14, 15] T402 [5, 6, 7, 8, 9, 0, 1, 2, 3, 10, 11, 12, 13, 14, 15, 16, 4]
      have H404 : Sat w [ZY (stC (⟨Y352, a394, c395, D396⟩ : CeR) :: Bi), Z0 t 121 (ZC F rp tm), ZQ tm nmV ceV Mi, Z0 tr 45 (Zx F rp lai Li.length lci), (Z9 lai Li lci), Z0 b 110 (Zt mb), (Zc mb L393), Z0 r 98 (Zs a391 L393.length c392), (Zb a391 L393 c392), Z7 w (ZL [Z0 t 121 [.int .i64 F, .int .i64 3, .int .i64 rp, .map (some tm)], ZQ tm nmV ceV M, Z0 tr 45 [.int .i64 F, .int .i64 3, .int .i64 rp, .slice la (L).length lc], (Z9 la L lc), ZY B, Z0 b 110 [.map (some mb)], (Zc mb Lb), Z0 r 98 [.slice ra (Lb).length rc], (Zb ra Lb rc)]).fp, Z0 x5 36 (Zv F), Z0 x8 40 (Zu b r), Z0 x12 55 (ZN a.d a.f a.t a.u a.n.cl a.n.sq a.ta a.xs.length a.tc a.X), Z0 x13 24 (Zo (Z3 a.n.cl 3) (1 + Z3 a.n.sq 4)), Zk 5 1 (.slice (some ⟨b342, 0, none⟩) 1 1) 1 ([UInt8.ofNat (IntKind.u8.wrap (Int.tdiv (Int.tmod a.f 7) 6)).toNat].flatMap ZE), Z0 b385 53 (Z0t)] w390 := (H403.pk [4, 16, 0, 1, 2, 3, 5, 6, 7, 8, 9, 10, 11, 12, 13, 14, 15]).bag
      have H405 := H404.pk [1, 2, 3, 4, 0, 5, 6, 7, 8, 9, 10, 11, 12, 13, 14, 15]
      have hXn : CeT (stC (⟨Y352, a394, c395, D396⟩ : CeR) :: Bi) (⟨Y352, a394, c395, D396⟩ : CeR) := ⟨Z4k (c := Y352) hgY352 (by omega) (by omega) (by simp only [List.length_cons, List.length_nil] at lnY352; omega) (by omega), (fun i hi => k397 _ (Z36 hi)), (by show D396.length ≤ 12; omega), List.mem_cons_self⟩
      refine ⟨_, rfl, ?_⟩
      have S406 := H405.pk [9, 10, 11, 12, 13]
      refine kq _ _ S406 ?_
      clear kq Kq
      refine Z0j 17 fun Kq kq => ?_
      refine Z1F (Z0x Y352 a394 D396.length c395) H405 15 ?_
      intro w408 (H409 : Sat w [Z0 t 121 (ZC F rp tm), ZQ tm nmV ceV Mi, Z0 tr 45 (Zx F rp lai Li.length lci), (Z9 lai Li lci), ZY (stC (⟨Y352, a394, c395, D396⟩ : CeR) :: Bi), Z0 b 110 (Zt mb), (Zc mb L393), Z0 r 98 (Zs a391 L393.length c392), (Zb a391 L393 c392), Z7 w (ZL [Z0 t 121 [.int .i64 F, .int .i64 3, .int .i64 rp, .map (some tm)], ZQ tm nmV ceV M, Z0 tr 45 [.int .i64 F, .int .i64 3, .int .i64 rp, .slice la (L).length lc], (Z9 la L lc), ZY B, Z0 b 110 [.map (some mb)], (Zc mb Lb), Z0 r 98 [.slice ra (Lb).length rc], (Zb ra Lb rc)]).fp, Z0 x5 36 (Zv F), Z0 x8 40 (Zu b r), Z0 x12 55 (ZN a.d a.f a.t a.u a.n.cl a.n.sq a.ta a.xs.length a.tc a.X), Z0 x13 24 (Zo (Z3 a.n.cl 3) (1 + Z3 a.n.sq 4)), Zk 5 1 (.slice (some ⟨b342, 0, none⟩) 1 1) 1 ([UInt8.ofNat (IntKind.u8.wrap (Int.tdiv (Int.tmod a.f 7) 6)).toNat].flatMap ZE), Z0 b385 53 (Z0x Y352 a394 D396.length c395)] w408)
      have S411 := H409.pk [9, 10, 11, 12, 13]
      refine kq _ _ S411 ?_
      clear kq Kq
      refine zhf ?_
      have H412 := H409.pk [0, 1, 2, 3, 4, 5, 6, 7, 8, 9, 10, 11, 12, 13, 15]
      refine ZX ?_ ⟨b385, (⟨Y352, a394, c395, D396⟩ : CeR), L393, a391, c392, rfl, hXn, n398, (by omega), H412⟩
      exact zs
     refine zda (Z0t) H345 ?_
     intro b413 w414 H415
     have S416 := H415.pk [9, 10, 11, 12, 13]
     refine kq _ _ S416 ?_
     clear kq Kq
     refine Z0j 10 fun Kq kq => ?_
     refine zdc 79 (Z3v w414 b mb r rai rci Lbi (H415.fn [5, 6, 7, 8]) (Z3 a.n.cl 3) (1 + Z3 a.n.sq 4) (some ⟨b342, 0, none⟩) 1 ([UInt8.ofNat (IntKind.u8.wrap (Int.tdiv (Int.tmod a.f 7) 6)).toNat]) (ListAt.row (enc := ZE) (sz := 1) ZR (by decide) (H415.at 14 rfl)) (Z8r (e := 5) (k := 1) (xs := (([UInt8.ofNat (IntKind.u8.wrap (Int.tdiv (Int.tmod a.f 7) 6)).toNat]).flatMap ZE)) (n := 1) (c := 1) (fun b_ hb_ => H415.offP [5, 6, 7, 8] 14 rfl rfl (by decide) hb_)) (Nat.le_of_ble_eq_true rfl) (by omega) (by omega) (by omega) hn) ?_
     rintro _ w418 ⟨a420, c421, rfl, T419⟩
     obtain ⟨L423, hL423⟩ : ∃ L423 : List Signed, L423 = Zp Lbi (yC (Z3 a.n.cl 3) (1 + Z3 a.n.sq 4) Z04 ([UInt8.ofNat (IntKind.u8.wrap (Int.tdiv (Int.tmod a.f 7) 6)).toNat])) := ⟨_, rfl⟩
     rw [← hL423] at T419
     have H424 : Sat w [Z0 t 121 (ZC F rp tm), ZQ tm nmV ceV Mi, Z0 tr 45 (Zx F rp lai Li.length lci), (Z9 lai Li lci), ZY Bi, Z0 b 110 (Zt mb), (Zc mb L423), Z0 r 98 (Zs a420 L423.length c421), (Zb a420 L423 c421), Z7 w (ZL [Z0 t 121 [.int .i64 F, .int .i64 3, .int .i64 rp, .map (some tm)], ZQ tm nmV ceV M, Z0 tr 45 [.int .i64 F, .int .i64 3, .int .i64 rp, .slice la (L).length lc], (Z9 la L lc), ZY B, Z0 b 110 [.map (some mb)], (Zc mb Lb), Z0 r 98 [.slice ra (Lb).length rc], (Zb ra Lb rc)]).fp, Z0 x5 36 (Zv F), Z0 x8 40 (Zu b r), Z0 x12 55 (ZN a.d a.f a.t a.u a.n.cl a.n.sq a.ta a.xs.length a.tc a.X), Z0 x13 24 (Zo (Z3 a.n.cl 3) (1 + Z3 a.n.sq 4)), Zk 5 1 (.slice (some ⟨b342, 0, none⟩) 1 1) 1 ([UInt8.ofNat (IntKind.u8.wrap (Int.tdiv (Int.tmod a.f 7) 6)).toNat].flatMap ZE), Z0 b413 53 (Z0t)] w418 := (Sat.turnL (L' := [Z0 b 110 (Zt mb), (Zc mb L423), Z0 r 98 (Zs a420 L423.length c421), (Zb a420 L423 c421)]) (R := [Z0 t 121 (ZC F rp tm), ZQ tm nmV ceV Mi, Z0 tr 45 (Zx F rp lai Li.length lci), (Z9 lai Li lci), ZY Bi, Z7 w (ZL [Z0 t 121 [.int .i64 F, .int .i64 3, .int .i64 rp, .map (some tm)], ZQ tm nmV ceV M, Z0 tr 45 [.int .i64 F, .int .i64 3, .int .i64 rp, .slice la (L).length lc], (Z9 la L lc), ZY B, Z0 b 110 [.map (some mb)], (Zc mb Lb), Z0 r 98 [.slice ra (Lb).length rc], (Zb ra Lb rc)]).fp, Z0 x5 36 (Zv F), Z0 x8 40 (Zu b r), Z0 x12 55 (ZN a.d a.f a.t a.u a.n.cl a.n.sq a.ta a.xs.length a.tc a.X), Z0 x13 24 (Zo (Z3 a.n.cl 3) (1 + Z3 a.n.sq 4)), Zk 5 1 (.slice (some ⟨b342, 0, none⟩) 1 1) 1 ([UInt8.ofNat (IntKind.u8.wrap (Int.tdiv (Int.tmod a.f 7) 6)).toNat].flatMap ZE), Z0 b413 53 (Z0t)]) H415 [5, 6, 7, 8] [0, 1, 2, 3, 4, 9, 10, 11, 12, 13, 14, 15] (by decide) (by kernel_rfl) rfl T419).pk [4, 5, 6, 7, 8, 0, 1, 2, 3, 9, 10, 11, 12, 13, 14, 15]
     refine ⟨_, rfl, ?_⟩
     obtain ⟨Y422, hY422⟩ : ∃ Y422 : Zg, Y422 = mkC Lbi (Z3 a.n.cl 3) (1 + Z3 a.n.sq 4) Z04 ([UInt8.ofNat (IntKind.u8.wrap (Int.tdiv (Int.tmod a.f 7) 6)).toNat]) := ⟨_, rfl⟩
     rw [← hY422]
     have hgY422 : Z9V L423 Y422 := by rw [hL423, hY422]; exact Z5A _ _ _ _ _
     have ndL423 : L423.Nodup := by rw [hL423]; exact Z20 hn _
     have llL423 : L423.length ≤ Lbi.length + 1 := by rw [hL423]; exact Z2a _ _
     have clY422 : Y422.cl = Z3 a.n.cl 3 := by rw [hY422]; rfl
     have sqY422 : Y422.seq = 1 + Z3 a.n.sq 4 := by rw [hY422]; rfl
     have lnY422 : Y422.len = ([UInt8.ofNat (IntKind.u8.wrap (Int.tdiv (Int.tmod a.f 7) 6)).toNat]).length := by rw [hY422]; rfl
     have S425 := H424.pk [9, 10, 11, 12, 13]
     refine kq _ _ S425 ?_
     clear kq Kq
     refine Z0j 15 fun Kq kq => ?_
     refine zdc 84 (Z3N w418 b mb r a420 c421 L423 (H424.fn [5, 6, 7, 8]) F 3 (by omega) Y422 ⟨by omega, by omega, by simp only [List.length_cons, List.length_nil] at lnY422; omega⟩ a.f (by omega) ndL423 a.ta a.tc a.xs (ListAt.nowD H424 9 rfl (hAc a haL).xs (hAo a haL).xs) (hAc a haL).b (Z4w Z1v (by decide) H424 [5, 6, 7, 8] 9 rfl rfl (by decide) (hAc a haL).xs (hAo a haL).xs)) ?_
     rintro _ w427 ⟨a428, c429, L430, a431, c432, D433, rfl, l437, k434, n435, l436, p438, T439⟩
     have H440 := H424.tl [Z0 b 110 (Zt mb), (Zc mb L430), Z0 r 98 (Zs a428 L430.length c429), (Zb a428 L430 c429), (Z1s a431 D433 c432)] [5, 6, 7, 8] [0, 1, 2, 3, 4, 9, 10, 11, 12, 13, 14, 15] T439 [5, 6, 7, 8, 9, 0, 1, 2, 3, 10, 11, 12, 13, 14, 15, 16, 4]
     have H441 : Sat w [ZY (stC (⟨Y422, a431, c432, D433⟩ : CeR) :: Bi), Z0 t 121 (ZC F rp tm), ZQ tm nmV ceV Mi, Z0 tr 45 (Zx F rp lai Li.length lci), (Z9 lai Li lci), Z0 b 110 (Zt mb), (Zc mb L430), Z0 r 98 (Zs a428 L430.length c429), (Zb a428 L430 c429), Z7 w (ZL [Z0 t 121 [.int .i64 F, .int .i64 3, .int .i64 rp, .map (some tm)], ZQ tm nmV ceV M, Z0 tr 45 [.int .i64 F, .int .i64 3, .int .i64 rp, .slice la (L).length lc], (Z9 la L lc), ZY B, Z0 b 110 [.map (some mb)], (Zc mb Lb), Z0 r 98 [.slice ra (Lb).length rc], (Zb ra Lb rc)]).fp, Z0 x5 36 (Zv F), Z0 x8 40 (Zu b r), Z0 x12 55 (ZN a.d a.f a.t a.u a.n.cl a.n.sq a.ta a.xs.length a.tc a.X), Z0 x13 24 (Zo (Z3 a.n.cl 3) (1 + Z3 a.n.sq 4)), Zk 5 1 (.slice (some ⟨b342, 0, none⟩) 1 1) 1 ([UInt8.ofNat (IntKind.u8.wrap (Int.tdiv (Int.tmod a.f 7) 6)).toNat].flatMap ZE), Z0 b413 53 (Z0t)] w427 := (H440.pk [4, 16, 0, 1, 2, 3, 5, 6, 7, 8, 9, 10, 11, 12, 13, 14, 15]).bag
     have H442 := H441.pk [1, 2, 3, 4, 0, 5, 6, 7, 8, 9, 10, 11, 12, 13, 14, 15]
     have hXn : CeT (stC (⟨Y422, a431, c432, D433⟩ : CeR) :: Bi) (⟨Y422, a431, c432, D433⟩ : CeR) := ⟨Z4k (c := Y422) hgY422 (by omega) (by omega) (by simp only [List.length_cons, List.length_nil] at lnY422; omega) (by omega), (fun i hi => k434 _ (Z36 hi)), (by show D433.length ≤ 12; omega), List.mem_cons_self⟩
     refine ⟨_, rfl, ?_⟩
     have S443 := H442.pk [9, 10, 11, 12, 13]
     refine kq _ _ S443 ?_
     clear kq Kq
     refine Z0j 17 fun Kq kq => ?_
     refine Z1F (Z0x Y422 a431 D433.length c432) H442 15 ?_
     intro w445 (H446 : Sat w [Z0 t 121 (ZC F rp tm), ZQ tm nmV ceV Mi, Z0 tr 45 (Zx F rp lai Li.length lci), (Z9 lai Li lci), ZY (stC (⟨Y422, a431, c432, D433⟩ : CeR) :: Bi), Z0 b 110 (Zt mb), (Zc mb L430), Z0 r 98 (Zs a428 L430.length c429), (Zb a428 L430 c429), Z7 w (ZL [Z0 t 121 [.int .i64 F, .int .i64 3, .int .i64 rp, .map (some tm)], ZQ tm nmV ceV M, Z0 tr 45 [.int .i64 F, .int .i64 3, .int .i64 rp, .slice la (L).length lc], (Z9 la L lc), ZY B, Z0 b 110 [.map (some mb)], (Zc mb Lb), Z0 r 98 [.slice ra (Lb).length rc], (Zb ra Lb rc)]).fp, Z0 x5 36 (Zv F), Z0 x8 40 (Zu b r), Z0 x12 55 (ZN a.d a.f a.t a.u a.n.cl a.n.sq a.ta a.xs.length a.tc a.X), Z0 x13 24 (Zo (Z3 a.n.cl 3) (1 + Z3 a.n.sq 4)), Zk 5 1 (.slice (some ⟨b342, 0, none⟩) 1 1) 1 ([UInt8.ofNat (IntKind.u8.wrap (Int.tdiv (Int.tmod a.f 7) 6)).toNat].flatMap ZE), Z0 b413 53 (Z0x Y422 a431 D433.length c432)] w445)
     have S448 := H446.pk [9, 10, 11, 12, 13]
     refine kq _ _ S448 ?_
     clear kq Kq
     refine zhf ?_
     have H449 := H446.pk [0, 1, 2, 3, 4, 5, 6, 7, 8, 9, 10, 11, 12, 13, 15]
     refine ZX ?_ ⟨b413, (⟨Y422, a431, c432, D433⟩ : CeR), L430, a428, c429, rfl, hXn, n435, (by omega), H449⟩
     exact zs
    refine zda (Z0t) H339 ?_
    intro b450 w451 H452
    have S453 := H452.pk [9, 10, 11, 12, 13]
    refine kq _ _ S453 ?_
    clear kq Kq
    refine Z0j 9 fun Kq kq => ?_
    refine Z45 5 1 1 (.int .u8 (0)) [(0, (.int .u8 (IntKind.u8.wrap (Int.tdiv (Int.tmod a.f 7) 6))))] ([(.int .u8 (IntKind.u8.wrap (Int.tdiv (Int.tmod a.f 7) 6)))] : List Value) H452 ?_
    intro b455 w456 (H457 : Sat w [Z0 t 121 (ZC F rp tm), ZQ tm nmV ceV Mi, Z0 tr 45 (Zx F rp lai Li.length lci), (Z9 lai Li lci), ZY Bi, Z0 b 110 (Zt mb), (Zc mb Lbi), Z0 r 98 (Zs rai Lbi.length rci), (Zb rai Lbi rci), Z7 w (ZL [Z0 t 121 [.int .i64 F, .int .i64 3, .int .i64 rp, .map (some tm)], ZQ tm nmV ceV M, Z0 tr 45 [.int .i64 F, .int .i64 3, .int .i64 rp, .slice la (L).length lc], (Z9 la L lc), ZY B, Z0 b 110 [.map (some mb)], (Zc mb Lb), Z0 r 98 [.slice ra (Lb).length rc], (Zb ra Lb rc)]).fp, Z0 x5 36 (Zv F), Z0 x8 40 (Zu b r), Z0 x12 55 (ZN a.d a.f a.t a.u a.n.cl a.n.sq a.ta a.xs.length a.tc a.X), Z0 x13 24 (Zo (Z3 a.n.cl 3) (1 + Z3 a.n.sq 4)), Z0 b450 53 (Z0t), Zk 5 1 (.slice (some ⟨b455, 0, none⟩) 1 1) 1 ([(.int .u8 (IntKind.u8.wrap (Int.tdiv (Int.tmod a.f 7) 6)))] : List Value)] w456)
    have H458 := H457.ct 15 rfl (Zk 5 1 (.slice (some ⟨b455, 0, none⟩) 1 1) 1 ([UInt8.ofNat (IntKind.u8.wrap (Int.tdiv (Int.tmod a.f 7) 6)).toNat].flatMap ZE)) (by rw [Z3f (by have q_ := Zcm ((Int.tdiv (Int.tmod a.f 7) 6)); omega)])
    have S459 := H458.pk [9, 10, 11, 12, 13]
    refine kq _ _ S459 ?_
    clear kq Kq
    refine Z0j 10 fun Kq kq => ?_
    refine zdc 79 (Z3v w456 b mb r rai rci Lbi (H458.fn [5, 6, 7, 8]) (Z3 a.n.cl 3) (1 + Z3 a.n.sq 4) (some ⟨b455, 0, none⟩) 1 ([UInt8.ofNat (IntKind.u8.wrap (Int.tdiv (Int.tmod a.f 7) 6)).toNat]) (ListAt.row (enc := ZE) (sz := 1) ZR (by decide) (H458.at 15 rfl)) (Z8r (e := 5) (k := 1) (xs := (([UInt8.ofNat (IntKind.u8.wrap (Int.tdiv (Int.tmod a.f 7) 6)).toNat]).flatMap ZE)) (n := 1) (c := 1) (fun b_ hb_ => H458.offP [5, 6, 7, 8] 15 rfl rfl (by decide) hb_)) (Nat.le_of_ble_eq_true rfl) (by omega) (by omega) (by omega) hn) ?_
    rintro _ w461 ⟨a463, c464, rfl, T462⟩
    obtain ⟨L466, hL466⟩ : ∃ L466 : List Signed, L466 = Zp Lbi (yC (Z3 a.n.cl 3) (1 + Z3 a.n.sq 4) Z04 ([UInt8.ofNat (IntKind.u8.wrap (Int.tdiv (Int.tmod a.f 7) 6)).toNat])) := ⟨_, rfl⟩
    rw [← hL466] at T462
    have H467 : Sat w [Z0 t 121 (ZC F rp tm), ZQ tm nmV ceV Mi, Z0 tr 45 (Zx F rp lai Li.length lci), (Z9 lai Li lci), ZY Bi, Z0 b 110 (Zt mb), (Zc mb L466), Z0 r 98 (Zs a463 L466.length c464), (Zb a463 L466 c464), Z7 w (ZL [Z0 t 121 [.int .i64 F, .int .i64 3, .int .i64 rp, .map (some tm)], ZQ tm nmV ceV M, Z0 tr 45 [.int .i64 F, .int .i64 3, .int .i64 rp, .slice la (L).length lc], (Z9 la L lc), ZY B, Z0 b 110 [.map (some mb)], (Zc mb Lb), Z0 r 98 [.slice ra (Lb).length rc], (Zb ra Lb rc)]).fp, Z0 x5 36 (Zv F), Z0 x8 40 (Zu b r), Z0 x12 55 (ZN a.d a.f a.t a.u a.n.cl a.n.sq a.ta a.xs.length a.tc a.X), Z0 x13 24 (Zo (Z3 a.n.cl 3) (1 + Z3 a.n.sq 4)), Z0 b450 53 (Z0t), Zk 5 1 (.slice (some ⟨b455, 0, none⟩) 1 1) 1 ([UInt8.ofNat (IntKind.u8.wrap (Int.tdiv (Int.tmod a.f 7) 6)).toNat].flatMap ZE)] w461 := (Sat.turnL (L' := [Z0 b 110 (Zt mb), (Zc mb L466), Z0 r 98 (Zs a463 L466.length c464), (Zb a463 L466 c464)]) (R := [Z0 t 121 (ZC F rp tm), ZQ tm nmV ceV Mi, Z0 tr 45 (Zx F rp lai Li.length lci), (Z9 lai Li lci), ZY Bi, Z7 w (ZL [Z0 t 121 [.int .i64 F, .int .i64 3, .int .i64 rp, .map (some tm)], ZQ tm nmV ceV M, Z0 tr 45 [.int .i64 F, .int .i64 3, .int .i64 rp, .slice la (L).length lc], (Z9 la L lc), ZY B, Z0 b 110 [.map (some mb)], (Zc mb Lb), Z0 r 98 [.slice ra (Lb).length rc], (Zb ra Lb rc)]).fp, Z0 x5 36 (Zv F), Z0 x8 40 (Zu b r), Z0 x12 55 (ZN a.d a.f a.t a.u a.n.cl a.n.sq a.ta a.xs.length a.tc a.X), Z0 x13 24 (Zo (Z3 a.n.cl 3) (1 + Z3 a.n.sq 4)), Z0 b450 53 (Z0t), Zk 5 1 (.slice (some ⟨b455, 0, none⟩) 1 1) 1 ([UInt8.ofNat (IntKind.u8.wrap (Int.tdiv (Int.tmod a.f 7) 6)).toNat].flatMap ZE)]) H458 [5, 6, 7, 8] [0, 1, 2, 3, 4, 9, 10, 11, 12, 13, 14, 15] (by decide) (by kernel_rfl) rfl T462).pk [4, 5, 6, 7, 8, 0, 1, 2, 3, 9, 10, 11, 12, 13, 14, 15]
    refine ⟨_, rfl, ?_⟩
    obtain ⟨Y465, hY465⟩ : ∃ Y465 : Zg, Y465 = mkC Lbi (Z3 a.n.cl 3) (1 + Z3 a.n.sq 4) Z04 ([UInt8.ofNat (IntKind.u8.wrap (Int.tdiv (Int.tmod a.f 7) 6)).toNat]) := ⟨_, rfl⟩
    rw [← hY465]
    have hgY465 : Z9V L466 Y465 := by rw [hL466, hY465]; exact Z5A _ _ _ _ _
    have ndL466 : L466.Nodup := by rw [hL466]; exact Z20 hn _
    have llL466 : L466.length ≤ Lbi.length + 1 := by rw [hL466]; exact Z2a _ _
    have clY465 : Y465.cl = Z3 a.n.cl 3 := by rw [hY465]; rfl
    have sqY465 : Y465.seq = 1 + Z3 a.n.sq 4 := by rw [hY465]; rfl
    have lnY465 : Y465.len = ([UInt8.ofNat (IntKind.u8.wrap (Int.tdiv (Int.tmod a.f 7) 6)).toNat]).length := by rw [hY465]; rfl
    have S468 := H467.pk [9, 10, 11, 12, 13]
    refine kq _ _ S468 ?_
    clear kq Kq
    refine Z0j 15 fun Kq kq => ?_
    refine zdc 84 (Z3N w461 b mb r a463 c464 L466 (H467.fn [5, 6, 7, 8]) F 3 (by omega) Y465 ⟨by omega, by omega, by simp only [List.length_cons, List.length_nil] at lnY465; omega⟩ a.f (by omega) ndL466 a.ta a.tc a.xs (ListAt.nowD H467 9 rfl (hAc a haL).xs (hAo a haL).xs) (hAc a haL).b (Z4w Z1v (by decide) H467 [5, 6, 7, 8] 9 rfl rfl (by decide) (hAc a haL).xs (hAo a haL).xs)) ?_
    rintro _ w470 ⟨a471, c472, L473, a474, c475, D476, rfl, l480, k477, n478, l479, p481, T482⟩
    have H483 := H467.tl [Z0 b 110 (Zt mb), (Zc mb L473), Z0 r 98 (Zs a471 L473.length c472), (Zb a471 L473 c472), (Z1s a474 D476 c475)] [5, 6, 7, 8] [0, 1, 2, 3, 4, 9, 10, 11, 12, 13, 14, 15] T482 [5, 6, 7, 8, 9, 0, 1, 2, 3, 10, 11, 12, 13, 14, 15, 16, 4]
    have H484 : Sat w [ZY (stC (⟨Y465, a474, c475, D476⟩ : CeR) :: Bi), Z0 t 121 (ZC F rp tm), ZQ tm nmV ceV Mi, Z0 tr 45 (Zx F rp lai Li.length lci), (Z9 lai Li lci), Z0 b 110 (Zt mb), (Zc mb L473), Z0 r 98 (Zs a471 L473.length c472), (Zb a471 L473 c472), Z7 w (ZL [Z0 t 121 [.int .i64 F, .int .i64 3, .int .i64 rp, .map (some tm)], ZQ tm nmV ceV M, Z0 tr 45 [.int .i64 F, .int .i64 3, .int .i64 rp, .slice la (L).length lc], (Z9 la L lc), ZY B, Z0 b 110 [.map (some mb)], (Zc mb Lb), Z0 r 98 [.slice ra (Lb).length rc], (Zb ra Lb rc)]).fp, Z0 x5 36 (Zv F), Z0 x8 40 (Zu b r), Z0 x12 55 (ZN a.d a.f a.t a.u a.n.cl a.n.sq a.ta a.xs.length a.tc a.X), Z0 x13 24 (Zo (Z3 a.n.cl 3) (1 + Z3 a.n.sq 4)), Z0 b450 53 (Z0t), Zk 5 1 (.slice (some ⟨b455, 0, none⟩) 1 1) 1 ([UInt8.ofNat (IntKind.u8.wrap (Int.tdiv (Int.tmod a.f 7) 6)).toNat].flatMap ZE)] w470 := (H483.pk [4, 16, 0, 1, 2, 3, 5, 6, 7, 8, 9, 10, 11, 12, 13, 14, 15]).bag
    have H485 := H484.pk [1, 2, 3, 4, 0, 5, 6, 7, 8, 9, 10, 11, 12, 13, 14, 15]
    have hXn : CeT (stC (⟨Y465, a474, c475, D476⟩ : CeR) :: Bi) (⟨Y465, a474, c475, D476⟩ : CeR) := ⟨Z4k (c := Y465) hgY465 (by omega) (by omega) (by simp only [List.length_cons, List.length_nil] at lnY465; omega) (by omega), (fun i hi => k477 _ (Z36 hi)), (by show D476.length ≤ 12; omega), List.mem_cons_self⟩
    refine ⟨_, rfl, ?_⟩
    have S486 := H485.pk [9, 10, 11, 12, 13]
    refine kq _ _ S486 ?_
    clear kq Kq
    refine Z0j 17 fun Kq kq => ?_
    refine Z1F (Z0x Y465 a474 D476.length c475) H485 14 ?_
    intro w488 (H489 : Sat w [Z0 t 121 (ZC F rp tm), ZQ tm nmV ceV Mi, Z0 tr 45 (Zx F rp lai Li.length lci), (Z9 lai Li lci), ZY (stC (⟨Y465, a474, c475, D476⟩ : CeR) :: Bi), Z0 b 110 (Zt mb), (Zc mb L473), Z0 r 98 (Zs a471 L473.length c472), (Zb a471 L473 c472), Z7 w (ZL [Z0 t 121 [.int .i64 F, .int .i64 3, .int .i64 rp, .map (some tm)], ZQ tm nmV ceV M, Z0 tr 45 [.int .i64 F, .int .i64 3, .int .i64 rp, .slice la (L).length lc], (Z9 la L lc), ZY B, Z0 b 110 [.map (some mb)], (Zc mb Lb), Z0 r 98 [.slice ra (Lb).length rc], (Zb ra Lb rc)]).fp, Z0 x5 36 (Zv F), Z0 x8 40 (Zu b r), Z0 x12 55 (ZN a.d a.f a.t a.u a.n.cl a.n.sq a.ta a.xs.length a.tc a.X), Z0 x13 24 (Zo (Z3 a.n.cl 3) (1 + Z3 a.n.sq 4)), Z0 b450 53 (Z0x Y465 a474 D476.length c475), Zk 5 1 (.slice (some ⟨b455, 0, none⟩) 1 1) 1 ([UInt8.ofNat (IntKind.u8.wrap (Int.tdiv (Int.tmod a.f 7) 6)).toNat].flatMap ZE)] w488)
    have S491 := H489.pk [9, 10, 11, 12, 13]
    refine kq _ _ S491 ?_
    clear kq Kq
    refine zhf ?_
    have H492 := H489.pk [0, 1, 2, 3, 4, 5, 6, 7, 8, 9, 10, 11, 12, 13, 14]
    refine ZX ?_ ⟨b450, (⟨Y465, a474, c475, D476⟩ : CeR), L473, a471, c472, rfl, hXn, n478, (by omega), H492⟩
    exact zs
   rintro f493 w494 ⟨x26, X, L0, ra0, rc0, v496, hX, hn0, hl0, H495⟩
   refine Zl 26 _ v496 ?_
   have hE0_ := hE.sub (fun A hA => List.mem_cons_of_mem (stC X) hA)
   replace hE := hE0_
   refine Z0A [27, 28, 85, 86, 87, 88, 89, 90, 91, 92, 93] (fun G_ W_ => ∃ (x27 : Nat) (s1 : Za) (er : Int) (M1 : List (NmD × CeR)) (B2 : List Ck) (L2 : List Signed), G_ 27 = (pt x27 0) ∧ G_ 28 = (.int .i64 (er)) ∧ (er = Z3a F 3 fl L0 Mi X) ∧ (er = 0 → s1 = Z9n rp L0 X ∧ L2 = Zp L0 (Z9o rp X)) ∧ (¬ er = 0 → L2 = L0) ∧ (((M1 = Mi ∧ B2 = (stC X :: Bi) ∧ (er = 0 → (Zm Mi (nmX X)).isSome = true) ∧ (¬ er = 0 → s1 = Ze)) ∨ ((er = 0 ∧ Z0m F 3 L0 X.x X.S = true) ∧ (Zm Mi (nmX X)).isSome = false ∧ ∃ (sa : Option Addr) (sc : Nat), M1 = Z3q Mi (nmX X) ⟨X.x, sa, sc, X.S⟩ ∧ B2 = stC ⟨X.x, sa, sc, X.S⟩ :: (stC X :: Bi)))) ∧ Sat w [Z0 t 121 (ZC F rp tm), ZQ tm nmV ceV M1, Z0 tr 45 (Zx F rp lai Li.length lci), (Z9 lai Li lci), ZY B2, Z0 b 110 (Zt mb), (Zc mb L2), Z0 r 98 (Zs ra0 L0.length rc0), (Zb ra0 L0 rc0), Z7 w (ZL [Z0 t 121 [.int .i64 F, .int .i64 3, .int .i64 rp, .map (some tm)], ZQ tm nmV ceV M, Z0 tr 45 [.int .i64 F, .int .i64 3, .int .i64 rp, .slice la (L).length lc], (Z9 la L lc), ZY B, Z0 b 110 [.map (some mb)], (Zc mb Lb), Z0 r 98 [.slice ra (Lb).length rc], (Zb ra Lb rc)]).fp, Z0 x5 36 (Zv F), Z0 x8 40 (Zu b r), Z0 x12 55 (ZN a.d a.f a.t a.u a.n.cl a.n.sq a.ta a.xs.length a.tc a.X), Z0 x13 24 (Zo (Z3 a.n.cl 3) (1 + Z3 a.n.sq 4)), Z0 x26 53 (Z1d X), Z0 x27 31 (Z06 s1)] W_) ?_ ?_
   ·apply Zq
    refine wv 86 (pt t 0) ?_
    refine wv 87 (pt x8 0) ?_
    refine zw1 88 (pt b 0) (H495.cell 11 rfl rfl) ?_
    refine wv 89 (.int .u64 (fl)) ?_
    refine zwN 90 (Z1d X) (H495.at 14 rfl) ?_
    refine zwd fun Kq kq => ?_
    refine zdc 91 (Z6B w494 t tm F 3 rp Mi (stC X :: Bi) b mb L0 (H495.fn [0, 1, 4, 5, 6]) hE.ok.T (by omega) (by omega) hn0 (by omega) (by omega) fl X hX) ?_
    rintro _ w499 ⟨s500, r501, M502, B503, L504, rfl, e505, z506, z507, d508, T509⟩
    have H510 := H495.tl [Z0 t 121 (ZC F rp tm), ZQ tm nmV ceV M502, ZY B503, Z0 b 110 (Zt mb), (Zc mb L504)] [0, 1, 4, 5, 6] [2, 3, 7, 8, 9, 10, 11, 12, 13, 14] T509 [0, 1, 5, 6, 2, 3, 4, 7, 8, 9, 10, 11, 12, 13, 14]
    refine ⟨_, rfl, ?_⟩
    refine kq _ _ ?_
    clear kq Kq
    refine wv 85 (.tuple #[(.agg ⟨(Z06 s500)⟩), (.int .i64 (r501))]) ?_
    refine wv 92 (.agg ⟨(Z06 s500)⟩) ?_
    refine wv 93 (.int .i64 (r501)) ?_
    refine zwd fun Kq kq => ?_
    refine zda (Z2x) H510 ?_
    intro b512 w513 (H514 : Sat w [Z0 t 121 (ZC F rp tm), ZQ tm nmV ceV M502, Z0 tr 45 (Zx F rp lai Li.length lci), (Z9 lai Li lci), ZY B503, Z0 b 110 (Zt mb), (Zc mb L504), Z0 r 98 (Zs ra0 L0.length rc0), (Zb ra0 L0 rc0), Z7 w (ZL [Z0 t 121 [.int .i64 F, .int .i64 3, .int .i64 rp, .map (some tm)], ZQ tm nmV ceV M, Z0 tr 45 [.int .i64 F, .int .i64 3, .int .i64 rp, .slice la (L).length lc], (Z9 la L lc), ZY B, Z0 b 110 [.map (some mb)], (Zc mb Lb), Z0 r 98 [.slice ra (Lb).length rc], (Zb ra Lb rc)]).fp, Z0 x5 36 (Zv F), Z0 x8 40 (Zu b r), Z0 x12 55 (ZN a.d a.f a.t a.u a.n.cl a.n.sq a.ta a.xs.length a.tc a.X), Z0 x13 24 (Zo (Z3 a.n.cl 3) (1 + Z3 a.n.sq 4)), Z0 x26 53 (Z1d X), Z0 b512 31 (Z2x)] w513)
    refine kq _ _ ?_
    clear kq Kq
    refine zwd fun Kq kq => ?_
    refine Z1F (Z06 s500) H514 15 ?_
    intro w516 H517
    refine kq _ _ ?_
    clear kq Kq
    refine wv 28 (.int .i64 (r501)) ?_
    apply Zn
    have H519 := H517.pk [0, 1, 2, 3, 4, 5, 6, 7, 8, 9, 10, 11, 12, 13, 14, 15]
    refine ZX ?_ ⟨b512, s500, r501, M502, B503, L504, rfl, rfl, e505, z506, z507, d508, H519⟩
    exact zs
   rintro f520 w521 ⟨x27, s1, er, M1, B2, L2, v523, v524, hk1, hk2, hk3, hk4, H522⟩
   refine Zl 27 _ v523 ?_
   refine Zl 28 _ v524 ?_
   have hE0 := hE
   have hB1 : ∀ A ∈ (stC X :: Bi), A ∈ B2 := fun A hA => by rcases hk4 with ⟨_, q, _⟩ | ⟨_, _, _, _, _, q⟩ <;> rw [q] <;> simp [hA]
   refine Z0A [29, 30, 94, 95, 96, 97, 98, 99, 100, 101, 102] (fun G_ W_ => ∃ (x29 : Nat) (L1 : List CeR) (la1 : Option Addr) (lc1 : Nat) (ra2 : Option Addr) (rc2 : Nat), G_ 29 = (pt x29 0) ∧ G_ 30 = (.int .i64 (er)) ∧ (TabEq B2 M1 L1) ∧ (∀ A ∈ (stC X :: Bi), A ∈ B2) ∧ (M1.length ≤ 64) ∧ (L2.Nodup) ∧ (L2.length ≤ L0.length + 1) ∧ Sat w [Z0 t 121 (ZC F rp tm), ZQ tm nmV ceV M1, Z0 tr 45 (Zx F rp la1 L1.length lc1), (Z9 la1 L1 lc1), ZY B2, Z0 b 110 (Zt mb), (Zc mb L2), Z0 r 98 (Zs ra2 L2.length rc2), (Zb ra2 L2 rc2), Z7 w (ZL [Z0 t 121 [.int .i64 F, .int .i64 3, .int .i64 rp, .map (some tm)], ZQ tm nmV ceV M, Z0 tr 45 [.int .i64 F, .int .i64 3, .int .i64 rp, .slice la (L).length lc], (Z9 la L lc), ZY B, Z0 b 110 [.map (some mb)], (Zc mb Lb), Z0 r 98 [.slice ra (Lb).length rc], (Zb ra Lb rc)]).fp, Z0 x5 36 (Zv F), Z0 x8 40 (Zu b r), Z0 x12 55 (ZN a.d a.f a.t a.u a.n.cl a.n.sq a.ta a.xs.length a.tc a.X), Z0 x13 24 (Zo (Z3 a.n.cl 3) (1 + Z3 a.n.sq 4)), Z0 x26 53 (Z1d X), Z0 x27 31 (Z06 s1), Z0 x29 31 (Z06 s1)] W_) ?_ ?_
   ·apply Zq
    refine wv 95 (pt tr 0) ?_
    refine wv 96 (pt x8 1) ?_
    refine zw1 97 (pt r 0) (H522.cell 11 rfl rfl) ?_
    refine wv 98 (.int .u64 (fl)) ?_
    refine zwN 99 (Z1d X) (H522.at 14 rfl) ?_
    refine zwd fun Kq kq => ?_
    refine zdc 100 (Z7S w521 tr F 3 rp lai lci Li B2 r ra0 rc0 L0 (H522.fn [2, 3, 4, 7, 8]) (by have q := hE0.len; omega) (fun c hc_ => (hE0.ct c hc_).sub hB1) (by omega) hn0 (by omega) (by omega) fl X (hX.sub hB1)) ?_
    rintro _ w527 ⟨s528, r529, a530, c531, L532, a533, c534, L535, rfl, e536, z537, z538, d539, T540⟩
    have H541 : Sat w [Z0 t 121 (ZC F rp tm), ZQ tm nmV ceV M1, Z0 tr 45 (Zx F rp a530 L532.length c531), (Z9 a530 L532 c531), ZY B2, Z0 b 110 (Zt mb), (Zc mb L2), Z0 r 98 (Zs a533 L535.length c534), (Zb a533 L535 c534), Z7 w (ZL [Z0 t 121 [.int .i64 F, .int .i64 3, .int .i64 rp, .map (some tm)], ZQ tm nmV ceV M, Z0 tr 45 [.int .i64 F, .int .i64 3, .int .i64 rp, .slice la (L).length lc], (Z9 la L lc), ZY B, Z0 b 110 [.map (some mb)], (Zc mb Lb), Z0 r 98 [.slice ra (Lb).length rc], (Zb ra Lb rc)]).fp, Z0 x5 36 (Zv F), Z0 x8 40 (Zu b r), Z0 x12 55 (ZN a.d a.f a.t a.u a.n.cl a.n.sq a.ta a.xs.length a.tc a.X), Z0 x13 24 (Zo (Z3 a.n.cl 3) (1 + Z3 a.n.sq 4)), Z0 x26 53 (Z1d X), Z0 x27 31 (Z06 s1)] w527 := (Sat.turnL (L' := [Z0 tr 45 (Zx F rp a530 L532.length c531), (Z9 a530 L532 c531), ZY B2, Z0 r 98 (Zs a533 L535.length c534), (Zb a533 L535 c534)]) (R := [Z0 t 121 (ZC F rp tm), ZQ tm nmV ceV M1, Z0 b 110 (Zt mb), (Zc mb L2), Z7 w (ZL [Z0 t 121 [.int .i64 F, .int .i64 3, .int .i64 rp, .map (some tm)], ZQ tm nmV ceV M, Z0 tr 45 [.int .i64 F, .int .i64 3, .int .i64 rp, .slice la (L).length lc], (Z9 la L lc), ZY B, Z0 b 110 [.map (some mb)], (Zc mb Lb), Z0 r 98 [.slice ra (Lb).length rc], (Zb ra Lb rc)]).fp, Z0 x5 36 (Zv F), Z0 x8 40 (Zu b r), Z0 x12 55 (ZN a.d a.f a.t a.u a.n.cl a.n.sq a.ta a.xs.length a.tc a.X), Z0 x13 24 (Zo (Z3 a.n.cl 3) (1 + Z3 a.n.sq 4)), Z0 x26 53 (Z1d X), Z0 x27 31 (Z06 s1)]) H522 [2, 3, 4, 7, 8] [0, 1, 5, 6, 9, 10, 11, 12, 13, 14, 15] (by decide) (by kernel_rfl) rfl T540).pk [5, 6, 0, 1, 2, 7, 8, 3, 4, 9, 10, 11, 12, 13, 14, 15]
    refine ⟨_, rfl, ?_⟩
    refine kq _ _ ?_
    clear kq Kq
    refine wv 94 (.tuple #[(.agg ⟨(Z06 s528)⟩), (.int .i64 (r529))]) ?_
    refine wv 101 (.agg ⟨(Z06 s528)⟩) ?_
    refine wv 102 (.int .i64 (r529)) ?_
    refine zwd fun Kq kq => ?_
    refine zda (Z2x) H541 ?_
    intro b543 w544 H545
    refine kq _ _ ?_
    clear kq Kq
    refine zwd fun Kq kq => ?_
    refine Z1F (Z06 s528) H545 16 ?_
    intro w547 (H548 : Sat w [Z0 t 121 (ZC F rp tm), ZQ tm nmV ceV M1, Z0 tr 45 (Zx F rp a530 L532.length c531), (Z9 a530 L532 c531), ZY B2, Z0 b 110 (Zt mb), (Zc mb L2), Z0 r 98 (Zs a533 L535.length c534), (Zb a533 L535 c534), Z7 w (ZL [Z0 t 121 [.int .i64 F, .int .i64 3, .int .i64 rp, .map (some tm)], ZQ tm nmV ceV M, Z0 tr 45 [.int .i64 F, .int .i64 3, .int .i64 rp, .slice la (L).length lc], (Z9 la L lc), ZY B, Z0 b 110 [.map (some mb)], (Zc mb Lb), Z0 r 98 [.slice ra (Lb).length rc], (Zb ra Lb rc)]).fp, Z0 x5 36 (Zv F), Z0 x8 40 (Zu b r), Z0 x12 55 (ZN a.d a.f a.t a.u a.n.cl a.n.sq a.ta a.xs.length a.tc a.X), Z0 x13 24 (Zo (Z3 a.n.cl 3) (1 + Z3 a.n.sq 4)), Z0 x26 53 (Z1d X), Z0 x27 31 (Z06 s1), Z0 b543 31 (Z06 s528)] w547)
    refine kq _ _ ?_
    clear kq Kq
    refine wv 30 (.int .i64 (r529)) ?_
    apply Zn
    have H550 := H548.pk [0, 1, 2, 3, 4, 5, 6, 7, 8, 9, 10, 11, 12, 13, 14, 15, 16]
    obtain ⟨her, hse, hLe, ⟨hE2, hsb, hl2⟩, hnd2, hll2⟩ := Z7i hE hX (by omega) hn0 hk1 hk2 hk3 hk4 e536 z537 z538 d539
    have H551 : Sat w [Z0 t 121 ([(.int .i64 (F)), (.int .i64 (3)), (.int .i64 (rp)), (.map (some tm))] : List Value), ZQ tm nmV ceV M1, Z0 tr 45 ([(.int .i64 (F)), (.int .i64 (3)), (.int .i64 (rp)), (.slice a530 L532.length c531)] : List Value), Zk 53 38 (.slice a530 L532.length c531) L532.length (L532.flatMap Z03), ZY B2, Z0 b 110 ([(.map (some mb))] : List Value), ZQ mb Zz (Value.int .i64) (ZS L2), Z0 r 98 ([(.slice a533 L2.length c534)] : List Value), Zk 114 2 (.slice a533 L2.length c534) L2.length (L2.flatMap Z1N), Z7 w (ZL [Z0 t 121 [.int .i64 F, .int .i64 3, .int .i64 rp, .map (some tm)], ZQ tm nmV ceV M, Z0 tr 45 [.int .i64 F, .int .i64 3, .int .i64 rp, .slice la (L).length lc], Zk 53 38 (.slice la (L).length lc) (L).length ((L).flatMap Z03), ZY B, Z0 b 110 [.map (some mb)], ZQ mb Zz (Value.int .i64) (ZS Lb), Z0 r 98 [.slice ra (Lb).length rc], Zk 114 2 (.slice ra (Lb).length rc) (Lb).length ((Lb).flatMap Z1N)]).fp, Z0 x5 36 ([(.int .i64 (F)), (.int .i64 (3))] : List Value), Z0 x8 40 ([(pt b 0), (pt r 0)] : List Value), Z0 x12 55 (([(.int .i64 (a.d)), (.int .i64 (a.f)), (.int .u64 (a.t)), (.int .u64 (a.u)), (.int .i64 (a.n.cl)), (.int .i64 (a.n.sq)), (.slice a.ta a.xs.length a.tc), (.int .i64 (a.X.x.cl)), (.int .i64 (a.X.x.seq))] : List Value) ++ hc a.X.x.h ++ ([(.int .i64 (a.X.x.len)), (.int .i64 (a.X.x.sb)), (.int .i64 (a.X.x.sm)), (.slice a.X.sa a.X.S.length a.X.sc)] : List Value)), Z0 x13 24 ([(.int .i64 (Z3 a.n.cl 3)), (.int .i64 (1 + Z3 a.n.sq 4))] : List Value), Z0 x26 53 (([(.int .i64 (X.x.cl)), (.int .i64 (X.x.seq))] : List Value) ++ hc X.x.h ++ ([(.int .i64 (X.x.len)), (.int .i64 (X.x.sb)), (.int .i64 (X.x.sm)), (.slice X.sa X.S.length X.sc)] : List Value)), Z0 x27 31 (([(.int .i64 (s1.r)), (.int .i64 (s1.cl)), (.int .i64 (s1.seq))] : List Value) ++ hc s1.h ++ ([(.int .u64 (s1.t)), (.int .i64 (s1.sb)), (.int .i64 (s1.sm))] : List Value)), Z0 b543 31 (([(.int .i64 (s1.r)), (.int .i64 (s1.cl)), (.int .i64 (s1.seq))] : List Value) ++ hc s1.h ++ ([(.int .u64 (s1.t)), (.int .i64 (s1.sb)), (.int .i64 (s1.sm))] : List Value))] w547 := by have q_ := H550; rw [hse, hLe] at q_; exact q_
    refine ZX ?_ ⟨b543, L532, a530, c531, a533, c534, rfl, (show ((.int .i64 (r529)) : Value) = _ by rw [her]), hE2, hsb, hl2, hnd2, hll2, H551⟩
    exact zs
   rintro f552 w553 ⟨x29, L1, la1, lc1, ra2, rc2, v555, v556, hE1, hB2, hl1, hn2, hll2, H554⟩
   refine Zl 29 _ v555 ?_
   refine Zl 30 _ v556 ?_
   apply zsl
   refine zwN 103 (Z06 s1) (H554.at 15 rfl) ?_
   refine zwN 104 (Z06 s1) (H554.at 16 rfl) ?_
   refine wv 105 (.bool (!(decide (s1 = s1)))) ?_ (hr := akF.e_ne s1 s1 rfl rfl)
   refine wv 106 (.bool (!(decide (s1 = s1)))) ?_
   have b557 : (!(decide (s1 = s1))) = false := by rw [decide_eq_true rfl]; rfl
   refine ZJ 106 (.bool false) (congrArg Value.bool b557) ?_
   have g558 := Zj b557
   have g559 := of_decide_eq_true g558
   refine wy 3 106 false 107 (.int .i64 (er)) ?_
   refine wy 3 106 false 108 (.int .i64 (er)) ?_
   refine wy 3 106 false 109 (.bool (!(decide (er = er)))) ?_
   refine wv 110 (.bool (!(decide (er = er)))) ?_
   apply znt
   have b560 : (!(decide (er = er))) = false := by rw [decide_eq_true rfl]; rfl
   have g561 := Zj b560
   have g562 := of_decide_eq_true g561
   refine Z1w _ b560 ?_
   apply ZW
   apply Zw
   have H563 := H554.pk [0, 1, 2, 3, 4, 5, 6, 7, 8, 9, 10, 11, 13]
   refine ZX ?_ ⟨M1, B2, L1, la1, lc1, L2, ra2, rc2, hE1, hl1, hn2, (by omega), (fun A hA => hB2 A (List.mem_cons_of_mem _ hA)), H563⟩
   exact zs
  rintro f564 w565 ⟨Mj, Bj, Lj, laj, lcj, Lbj, raj, rcj, hEj, hlMj, hnj, hlbj, hsubj, H566⟩
  refine Z0A [31, 32, 206, 207, 208, 209, 210, 211] (fun G_ W_ => ∃ (x31 : Nat) (sa34 : Option Addr) (sc34 : Nat), G_ 31 = (pt x31 0) ∧ G_ 32 = (.bool ((Zm Mj (⟨Z3 a.n.cl 3, 1 + Z3 a.n.sq 4⟩ : NmD)).isSome)) ∧ Sat w [Z0 t 121 (ZC F rp tm), ZQ tm nmV ceV Mj, Z0 tr 45 (Zx F rp laj Lj.length lcj), (Z9 laj Lj lcj), ZY Bj, Z0 b 110 (Zt mb), (Zc mb Lbj), Z0 r 98 (Zs raj Lbj.length rcj), (Zb raj Lbj rcj), Z7 w (ZL [Z0 t 121 [.int .i64 F, .int .i64 3, .int .i64 rp, .map (some tm)], ZQ tm nmV ceV M, Z0 tr 45 [.int .i64 F, .int .i64 3, .int .i64 rp, .slice la (L).length lc], (Z9 la L lc), ZY B, Z0 b 110 [.map (some mb)], (Zc mb Lb), Z0 r 98 [.slice ra (Lb).length rc], (Zb ra Lb rc)]).fp, Z0 x5 36 (Zv F), Z0 x8 40 (Zu b r), Z0 x13 24 (Zo (Z3 a.n.cl 3) (1 + Z3 a.n.sq 4)), Z0 x31 53 (Z0x (((Zm Mj (⟨Z3 a.n.cl 3, 1 + Z3 a.n.sq 4⟩ : NmD)).getD ce0).x) sa34 ((((Zm Mj (⟨Z3 a.n.cl 3, 1 + Z3 a.n.sq 4⟩ : NmD)).getD ce0).S).length) sc34), (Z1s sa34 (((Zm Mj (⟨Z3 a.n.cl 3, 1 + Z3 a.n.sq 4⟩ : NmD)).getD ce0).S) sc34)] W_) ?_ ?_
  ·apply Zq
   refine wv 207 (pt t 0) ?_
   refine zwN 208 (Zo (Z3 a.n.cl 3) (1 + Z3 a.n.sq 4)) (H566.at 12 rfl) ?_
   refine zwd fun Kq kq => ?_
   refine zdc 209 (ZaI w565 t tm F 3 rp Mj (H566.at 0 rfl) (H566.at 1 rfl) (fun q hq => ⟨(H566.at 4 rfl : (ZY Bj).ok _) _ (hEj.ok.T q hq).bag, (hEj.ok.T q hq).len⟩) (Z3 a.n.cl 3) (1 + Z3 a.n.sq 4)) ?_
   rintro _ w569 ⟨u570, rfl, k571, p572, q573⟩
   have H574 := H566.addU p572 k571 q573
   obtain ⟨a575, c576, rfl⟩ := Z6 (H574.at 13 rfl)
   refine ⟨_, rfl, ?_⟩
   refine kq _ _ ?_
   clear kq Kq
   refine wv 206 (.tuple #[(.agg ⟨(Z0x (((Zm Mj (⟨Z3 a.n.cl 3, 1 + Z3 a.n.sq 4⟩ : NmD)).getD ce0).x) a575 ((((Zm Mj (⟨Z3 a.n.cl 3, 1 + Z3 a.n.sq 4⟩ : NmD)).getD ce0).S).length) c576)⟩), (.bool ((Zm Mj (⟨Z3 a.n.cl 3, 1 + Z3 a.n.sq 4⟩ : NmD)).isSome))]) ?_
   refine wv 210 (.agg ⟨(Z0x (((Zm Mj (⟨Z3 a.n.cl 3, 1 + Z3 a.n.sq 4⟩ : NmD)).getD ce0).x) a575 ((((Zm Mj (⟨Z3 a.n.cl 3, 1 + Z3 a.n.sq 4⟩ : NmD)).getD ce0).S).length) c576)⟩) ?_
   refine wv 211 (.bool ((Zm Mj (⟨Z3 a.n.cl 3, 1 + Z3 a.n.sq 4⟩ : NmD)).isSome)) ?_
   refine zwd fun Kq kq => ?_
   refine zda (Z0t) H574 ?_
   intro b578 w579 (H580 : Sat w [Z0 t 121 (ZC F rp tm), ZQ tm nmV ceV Mj, Z0 tr 45 (Zx F rp laj Lj.length lcj), (Z9 laj Lj lcj), ZY Bj, Z0 b 110 (Zt mb), (Zc mb Lbj), Z0 r 98 (Zs raj Lbj.length rcj), (Zb raj Lbj rcj), Z7 w (ZL [Z0 t 121 [.int .i64 F, .int .i64 3, .int .i64 rp, .map (some tm)], ZQ tm nmV ceV M, Z0 tr 45 [.int .i64 F, .int .i64 3, .int .i64 rp, .slice la (L).length lc], (Z9 la L lc), ZY B, Z0 b 110 [.map (some mb)], (Zc mb Lb), Z0 r 98 [.slice ra (Lb).length rc], (Zb ra Lb rc)]).fp, Z0 x5 36 (Zv F), Z0 x8 40 (Zu b r), Z0 x13 24 (Zo (Z3 a.n.cl 3) (1 + Z3 a.n.sq 4)), (Z1s a575 (((Zm Mj (⟨Z3 a.n.cl 3, 1 + Z3 a.n.sq 4⟩ : NmD)).getD ce0).S) c576), Z0 b578 53 (Z0t)] w579)
   refine kq _ _ ?_
   clear kq Kq
   refine zwd fun Kq kq => ?_
   refine Z1F (Z0x (((Zm Mj (⟨Z3 a.n.cl 3, 1 + Z3 a.n.sq 4⟩ : NmD)).getD ce0).x) a575 ((((Zm Mj (⟨Z3 a.n.cl 3, 1 + Z3 a.n.sq 4⟩ : NmD)).getD ce0).S).length) c576) H580 14 ?_
   intro w582 H583
   refine kq _ _ ?_
   clear kq Kq
   refine wv 32 (.bool ((Zm Mj (⟨Z3 a.n.cl 3, 1 + Z3 a.n.sq 4⟩ : NmD)).isSome)) ?_
   apply Zn
   have H585 := H583.pk [0, 1, 2, 3, 4, 5, 6, 7, 8, 9, 10, 11, 12, 14, 13]
   refine ZX ?_ ⟨b578, a575, c576, rfl, rfl, H585⟩
   exact zs
  rintro f586 w587 ⟨x31, sa34, sc34, v589, v590, H588⟩
  refine Zl 31 _ v589 ?_
  refine Zl 32 _ v590 ?_
  refine Z0A [33, 34, 212, 213, 214, 215, 216, 217] (fun G_ W_ => ∃ (x33 : Nat), G_ 33 = (pt x33 0) ∧ G_ 34 = (.bool ((ZP Lj (Z3 a.n.cl 3) (1 + Z3 a.n.sq 4)).isSome)) ∧ Sat w [Z0 t 121 (ZC F rp tm), ZQ tm nmV ceV Mj, Z0 tr 45 (Zx F rp laj Lj.length lcj), (Z9 laj Lj lcj), ZY Bj, Z0 b 110 (Zt mb), (Zc mb Lbj), Z0 r 98 (Zs raj Lbj.length rcj), (Zb raj Lbj rcj), Z7 w (ZL [Z0 t 121 [.int .i64 F, .int .i64 3, .int .i64 rp, .map (some tm)], ZQ tm nmV ceV M, Z0 tr 45 [.int .i64 F, .int .i64 3, .int .i64 rp, .slice la (L).length lc], (Z9 la L lc), ZY B, Z0 b 110 [.map (some mb)], (Zc mb Lb), Z0 r 98 [.slice ra (Lb).length rc], (Zb ra Lb rc)]).fp, Z0 x5 36 (Zv F), Z0 x8 40 (Zu b r), Z0 x13 24 (Zo (Z3 a.n.cl 3) (1 + Z3 a.n.sq 4)), Z0 x31 53 (Z0x (((Zm Mj (⟨Z3 a.n.cl 3, 1 + Z3 a.n.sq 4⟩ : NmD)).getD ce0).x) sa34 ((((Zm Mj (⟨Z3 a.n.cl 3, 1 + Z3 a.n.sq 4⟩ : NmD)).getD ce0).S).length) sc34), (Z1s sa34 (((Zm Mj (⟨Z3 a.n.cl 3, 1 + Z3 a.n.sq 4⟩ : NmD)).getD ce0).S) sc34), Z0 x33 53 (Z23 (((ZP Lj (Z3 a.n.cl 3) (1 + Z3 a.n.sq 4)).getD ce0).x) ((ZP Lj (Z3 a.n.cl 3) (1 + Z3 a.n.sq 4)).getD ce0) (((ZP Lj (Z3 a.n.cl 3) (1 + Z3 a.n.sq 4)).getD ce0).S.length))] W_) ?_ ?_
  ·apply Zq
   refine wv 213 (pt tr 0) ?_
   refine zwN 214 (Zo (Z3 a.n.cl 3) (1 + Z3 a.n.sq 4)) (H588.at 12 rfl) ?_
   refine zwd fun Kq kq => ?_
   refine zdq 215 (Z99 w587 tr F 3 rp laj lcj Lj (H588.at 2 rfl) (H588.at 3 rfl) (by have q := hEj.len; omega) (Z3 a.n.cl 3) (1 + Z3 a.n.sq 4)) H588 ?_
   intro w593 H594
   refine kq _ _ ?_
   clear kq Kq
   refine wv 212 (.tuple #[(.agg ⟨(Z23 (((ZP Lj (Z3 a.n.cl 3) (1 + Z3 a.n.sq 4)).getD ce0).x) ((ZP Lj (Z3 a.n.cl 3) (1 + Z3 a.n.sq 4)).getD ce0) (((ZP Lj (Z3 a.n.cl 3) (1 + Z3 a.n.sq 4)).getD ce0).S.length))⟩), (.bool ((ZP Lj (Z3 a.n.cl 3) (1 + Z3 a.n.sq 4)).isSome))]) ?_
   refine wv 216 (.agg ⟨(Z23 (((ZP Lj (Z3 a.n.cl 3) (1 + Z3 a.n.sq 4)).getD ce0).x) ((ZP Lj (Z3 a.n.cl 3) (1 + Z3 a.n.sq 4)).getD ce0) (((ZP Lj (Z3 a.n.cl 3) (1 + Z3 a.n.sq 4)).getD ce0).S.length))⟩) ?_
   refine wv 217 (.bool ((ZP Lj (Z3 a.n.cl 3) (1 + Z3 a.n.sq 4)).isSome)) ?_
   refine zwd fun Kq kq => ?_
   refine zda (Z0t) H594 ?_
   intro b597 w598 (H599 : Sat w [Z0 t 121 (ZC F rp tm), ZQ tm nmV ceV Mj, Z0 tr 45 (Zx F rp laj Lj.length lcj), (Z9 laj Lj lcj), ZY Bj, Z0 b 110 (Zt mb), (Zc mb Lbj), Z0 r 98 (Zs raj Lbj.length rcj), (Zb raj Lbj rcj), Z7 w (ZL [Z0 t 121 [.int .i64 F, .int .i64 3, .int .i64 rp, .map (some tm)], ZQ tm nmV ceV M, Z0 tr 45 [.int .i64 F, .int .i64 3, .int .i64 rp, .slice la (L).length lc], (Z9 la L lc), ZY B, Z0 b 110 [.map (some mb)], (Zc mb Lb), Z0 r 98 [.slice ra (Lb).length rc], (Zb ra Lb rc)]).fp, Z0 x5 36 (Zv F), Z0 x8 40 (Zu b r), Z0 x13 24 (Zo (Z3 a.n.cl 3) (1 + Z3 a.n.sq 4)), Z0 x31 53 (Z0x (((Zm Mj (⟨Z3 a.n.cl 3, 1 + Z3 a.n.sq 4⟩ : NmD)).getD ce0).x) sa34 ((((Zm Mj (⟨Z3 a.n.cl 3, 1 + Z3 a.n.sq 4⟩ : NmD)).getD ce0).S).length) sc34), (Z1s sa34 (((Zm Mj (⟨Z3 a.n.cl 3, 1 + Z3 a.n.sq 4⟩ : NmD)).getD ce0).S) sc34), Z0 b597 53 (Z0t)] w598)
   refine kq _ _ ?_
   clear kq Kq
   refine zwd fun Kq kq => ?_
   refine Z1F (Z23 (((ZP Lj (Z3 a.n.cl 3) (1 + Z3 a.n.sq 4)).getD ce0).x) ((ZP Lj (Z3 a.n.cl 3) (1 + Z3 a.n.sq 4)).getD ce0) (((ZP Lj (Z3 a.n.cl 3) (1 + Z3 a.n.sq 4)).getD ce0).S.length)) H599 15 ?_
   intro w601 H602
   refine kq _ _ ?_
   clear kq Kq
   refine wv 34 (.bool ((ZP Lj (Z3 a.n.cl 3) (1 + Z3 a.n.sq 4)).isSome)) ?_
   apply Zn
   have H604 := H602.pk [0, 1, 2, 3, 4, 5, 6, 7, 8, 9, 10, 11, 12, 13, 14, 15]
   refine ZX ?_ ⟨b597, rfl, rfl, H604⟩
   exact zs
  rintro f605 w606 ⟨x33, v608, v609, H607⟩
  refine Zl 33 _ v608 ?_
  refine Zl 34 _ v609 ?_
  apply Zd
  refine Z08 H607 [Z0 t 121 (ZC F rp tm), ZQ tm nmV ceV Mj, Z0 tr 45 (Zx F rp laj Lj.length lcj), (Z9 laj Lj lcj), ZY Bj, Z0 b 110 (Zt mb), (Zc mb Lbj), Z0 r 98 (Zs raj Lbj.length rcj), (Zb raj Lbj rcj), Z7 w (ZL [Z0 t 121 [.int .i64 F, .int .i64 3, .int .i64 rp, .map (some tm)], ZQ tm nmV ceV M, Z0 tr 45 [.int .i64 F, .int .i64 3, .int .i64 rp, .slice la (L).length lc], (Z9 la L lc), ZY B, Z0 b 110 [.map (some mb)], (Zc mb Lb), Z0 r 98 [.slice ra (Lb).length rc], (Zb ra Lb rc)]).fp, Z0 x5 36 (Zv F), Z0 x8 40 (Zu b r), Z0 x13 24 (Zo (Z3 a.n.cl 3) (1 + Z3 a.n.sq 4)), Z0 x31 53 (Z0x (((Zm Mj (⟨Z3 a.n.cl 3, 1 + Z3 a.n.sq 4⟩ : NmD)).getD ce0).x) sa34 ((((Zm Mj (⟨Z3 a.n.cl 3, 1 + Z3 a.n.sq 4⟩ : NmD)).getD ce0).S).length) sc34), (Z1s sa34 (((Zm Mj (⟨Z3 a.n.cl 3, 1 + Z3 a.n.sq 4⟩ : NmD)).getD ce0).S) sc34), Z0 x33 53 (Z23 (((ZP Lj (Z3 a.n.cl 3) (1 + Z3 a.n.sq 4)).getD ce0).x) ((ZP Lj (Z3 a.n.cl 3) (1 + Z3 a.n.sq 4)).getD ce0) (((ZP Lj (Z3 a.n.cl 3) (1 + Z3 a.n.sq 4)).getD ce0).S.length))] 41 rfl (by kernel_rfl) (fun Hx => (Hx.pk [0, 1, 2, 3, 4, 5, 6, 7, 8, 9, 10, 11, 12, 13, 14, 15])) ?_
  intro w610 H611 S612
  refine hv0 0 S612 218 (.bool ((Zm Mj (⟨Z3 a.n.cl 3, 1 + Z3 a.n.sq 4⟩ : NmD)).isSome)) ?_
  refine hv0 1 S612 219 (.bool ((ZP Lj (Z3 a.n.cl 3) (1 + Z3 a.n.sq 4)).isSome)) ?_
  refine hv0 2 S612 220 (.bool (!(((Zm Mj (⟨Z3 a.n.cl 3, 1 + Z3 a.n.sq 4⟩ : NmD)).isSome) == ((ZP Lj (Z3 a.n.cl 3) (1 + Z3 a.n.sq 4)).isSome)))) ?_
  refine hv0 3 S612 221 (.bool (!(((Zm Mj (⟨Z3 a.n.cl 3, 1 + Z3 a.n.sq 4⟩ : NmD)).isSome) == ((ZP Lj (Z3 a.n.cl 3) (1 + Z3 a.n.sq 4)).isSome)))) ?_
  have b613 : (!(((Zm Mj (⟨Z3 a.n.cl 3, 1 + Z3 a.n.sq 4⟩ : NmD)).isSome) == ((ZP Lj (Z3 a.n.cl 3) (1 + Z3 a.n.sq 4)).isSome))) = false := by rw [hEj.some_iff]; simp
  refine Z1b 221 (.bool false) (congrArg Value.bool b613) ?_
  have g614 := Zj b613
  refine Z1h 4 S612 3 221 false 222 (.agg ⟨(Z0x (((Zm Mj (⟨Z3 a.n.cl 3, 1 + Z3 a.n.sq 4⟩ : NmD)).getD ce0).x) sa34 ((((Zm Mj (⟨Z3 a.n.cl 3, 1 + Z3 a.n.sq 4⟩ : NmD)).getD ce0).S).length) sc34)⟩) ?_ (he := fun _ H' => (Zi (vs := (Z0x (((Zm Mj (⟨Z3 a.n.cl 3, 1 + Z3 a.n.sq 4⟩ : NmD)).getD ce0).x) sa34 ((((Zm Mj (⟨Z3 a.n.cl 3, 1 + Z3 a.n.sq 4⟩ : NmD)).getD ce0).S).length) sc34)) rfl (by kernel_rfl) (by kernel_rfl) (by exact Nat.le_of_ble_eq_true (by kernel_rfl)) (H'.at 13 rfl) (by kernel_rfl)))
  refine Z1h 5 S612 3 221 false 223 (.agg ⟨(Z23 (((ZP Lj (Z3 a.n.cl 3) (1 + Z3 a.n.sq 4)).getD ce0).x) ((ZP Lj (Z3 a.n.cl 3) (1 + Z3 a.n.sq 4)).getD ce0) (((ZP Lj (Z3 a.n.cl 3) (1 + Z3 a.n.sq 4)).getD ce0).S.length))⟩) ?_ (he := fun _ H' => (Zi (vs := (Z23 (((ZP Lj (Z3 a.n.cl 3) (1 + Z3 a.n.sq 4)).getD ce0).x) ((ZP Lj (Z3 a.n.cl 3) (1 + Z3 a.n.sq 4)).getD ce0) (((ZP Lj (Z3 a.n.cl 3) (1 + Z3 a.n.sq 4)).getD ce0).S.length))) rfl (by kernel_rfl) (by kernel_rfl) (by exact Nat.le_of_ble_eq_true (by kernel_rfl)) (H'.at 15 rfl) (by kernel_rfl)))
  refine Z2R 6 rfl (by kernel_rfl) (ZD 3 221 false rfl (by kernel_rfl) rfl (by kernel_rfl)) (fun Kq kq => ?_)
  refine zdq 224 (Z7y w610 (⟨((Zm Mj (⟨Z3 a.n.cl 3, 1 + Z3 a.n.sq 4⟩ : NmD)).getD ce0).x, sa34, sc34, ((Zm Mj (⟨Z3 a.n.cl 3, 1 + Z3 a.n.sq 4⟩ : NmD)).getD ce0).S⟩ : CeR) ((ZP Lj (Z3 a.n.cl 3) (1 + Z3 a.n.sq 4)).getD ce0) (ListAt.row Z1y (by decide) (H611.at 14 rfl)) (hEj.ceOk (⟨Z3 a.n.cl 3, 1 + Z3 a.n.sq 4⟩ : NmD) (H611.at 4 rfl)) (Zbk (hEj.got (⟨Z3 a.n.cl 3, 1 + Z3 a.n.sq 4⟩ : NmD))).1.symm (Zbk (hEj.got (⟨Z3 a.n.cl 3, 1 + Z3 a.n.sq 4⟩ : NmD))).2.symm) H611 ?_
  intro w616 H617
  have S619 := H617.pk [0, 1, 2, 3, 4, 5, 6, 7, 8, 9, 10, 11, 12, 13, 14, 15]
  refine kq _ _ S619 ?_
  clear kq Kq
  refine Z1h 7 S619 3 221 false 225 (.bool false) ?_
  refine hv0 8 S619 226 (.bool false) ?_
  refine hv0 9 S619 227 (.bool false) ?_
  refine Z1h 10 S619 9 227 false 228 (pt t 0) ?_
  refine Z1h 12 S619 9 227 false 230 (pt tr 0) ?_
  refine Z1h 13 S619 9 227 false 231 (pt tr 0) ?_
  refine Z1h 14 S619 9 227 false 232 (pt tr 3) ?_
  refine Z1h 15 S619 9 227 false 233 (.slice laj Lj.length lcj) ?_ (he := fun _ H' => (Z8 rfl (by kernel_rfl) (H'.cell 2 rfl rfl)))
  refine Z2R 11 rfl (by kernel_rfl) (ZD 9 227 false rfl (by kernel_rfl) rfl (by kernel_rfl)) (fun Kq kq => ?_)
  refine zdc 229 (Z6A w616 t tm F 3 rp Mj (H617.at 0 rfl) (H617.at 1 rfl) (fun q hq => ⟨(H617.at 4 rfl : (ZY Bj).ok _) _ (hEj.ok.T q hq).bag, (hEj.ok.T q hq).len⟩) (by omega)) ?_
  rintro _ w621 ⟨ha, hc_, HL, Bh, ss, rfl, hs, hsp, hco, hin, k622, u623, q624⟩
  have H625 : Sat w [Z0 t 121 (ZC F rp tm), ZQ tm nmV ceV Mj, Z0 tr 45 (Zx F rp laj Lj.length lcj), (Z9 laj Lj lcj), ZY Bj, Z0 b 110 (Zt mb), (Zc mb Lbj), Z0 r 98 (Zs raj Lbj.length rcj), (Zb raj Lbj rcj), Z7 w (ZL [Z0 t 121 [.int .i64 F, .int .i64 3, .int .i64 rp, .map (some tm)], ZQ tm nmV ceV M, Z0 tr 45 [.int .i64 F, .int .i64 3, .int .i64 rp, .slice la (L).length lc], (Z9 la L lc), ZY B, Z0 b 110 [.map (some mb)], (Zc mb Lb), Z0 r 98 [.slice ra (Lb).length rc], (Zb ra Lb rc)]).fp, Z0 x5 36 (Zv F), Z0 x8 40 (Zu b r), Z0 x13 24 (Zo (Z3 a.n.cl 3) (1 + Z3 a.n.sq 4)), Z0 x31 53 (Z0x (((Zm Mj (⟨Z3 a.n.cl 3, 1 + Z3 a.n.sq 4⟩ : NmD)).getD ce0).x) sa34 ((((Zm Mj (⟨Z3 a.n.cl 3, 1 + Z3 a.n.sq 4⟩ : NmD)).getD ce0).S).length) sc34), (Z1s sa34 (((Zm Mj (⟨Z3 a.n.cl 3, 1 + Z3 a.n.sq 4⟩ : NmD)).getD ce0).S) sc34), Z0 x33 53 (Z23 (((ZP Lj (Z3 a.n.cl 3) (1 + Z3 a.n.sq 4)).getD ce0).x) ((ZP Lj (Z3 a.n.cl 3) (1 + Z3 a.n.sq 4)).getD ce0) (((ZP Lj (Z3 a.n.cl 3) (1 + Z3 a.n.sq 4)).getD ce0).S.length)), ZL [(Z9 ha HL hc_), ZY Bh]] w621 := H617.addU u623 k622 q624
  have H626 := H625.open 16 rfl
  refine ⟨_, rfl, ?_⟩
  have S627 := H626.pk [0, 1, 2, 3, 4, 5, 6, 7, 8, 9, 10, 11, 12, 13, 14, 15]
  refine kq _ _ S627 ?_
  clear kq Kq
  refine Z2R 16 rfl (by kernel_rfl) (ZD 9 227 false rfl (by kernel_rfl) rfl (by kernel_rfl)) (fun Kq kq => ?_)
  refine zdq 234 (Z6q w621 ha hc_ HL (ListAt.row Z0l (by decide) (H626.at 16 rfl)) (fun c hc => Z21 (H626.at 17 rfl) (hin c hc)) laj lcj Lj (ListAt.row Z0l (by decide) (H626.at 3 rfl)) (fun c hc => Z21 (H626.at 4 rfl) (hEj.ct c hc).bag) (hEj.held hs hsp hco).symm) H626 ?_
  intro w629 H630
  have S632 := H630.pk [0, 1, 2, 3, 4, 5, 6, 7, 8, 9, 10, 11, 12, 13, 14, 15]
  refine kq _ _ S632 ?_
  clear kq Kq
  refine Z1h 17 S632 9 227 false 235 (.bool false) ?_
  refine hv0 18 S632 236 (.bool false) ?_
  refine hv0 19 S632 237 (.bool false) ?_
  refine Z1h 20 S632 19 237 false 238 (pt t 0) ?_
  refine Z1h 22 S632 19 237 false 240 (pt tr 0) ?_
  refine Z1h 23 S632 19 237 false 241 (pt tr 0) ?_
  refine Z1h 24 S632 19 237 false 242 (pt tr 3) ?_
  refine Z1h 25 S632 19 237 false 243 (.slice laj Lj.length lcj) ?_ (he := fun _ H' => (Z8 rfl (by kernel_rfl) (H'.cell 2 rfl rfl)))
  refine Z09 26 rfl (by kernel_rfl) (by kernel_rfl) (by kernel_rfl) (fun _ _ _ h => h) S632 (ZD 19 237 false rfl (by kernel_rfl) rfl (by kernel_rfl)) (d := 244) (v := (.int .i64 ((Lj.length : Int)))) rfl (fun _ H' => (by kernel_rfl)) ?_
  refine Z2R 21 rfl (by kernel_rfl) (ZD 19 237 false rfl (by kernel_rfl) rfl (by kernel_rfl)) (fun Kq kq => ?_)
  refine zdq 239 (ZaJ w629 t tm F 3 rp Mj (H630.at 0 rfl) (H630.at 1 rfl)) H630 ?_
  intro w634 H635
  have S637 := H635.pk [0, 1, 2, 3, 4, 5, 6, 7, 8, 9, 10, 11, 12, 13, 14, 15]
  refine kq _ _ S637 ?_
  clear kq Kq
  refine Z1h 27 S637 19 237 false 245 (.bool (!(decide ((Mj.length : Int) = (Lj.length : Int))))) ?_
  refine hv0 28 S637 246 (.bool (!(decide ((Mj.length : Int) = (Lj.length : Int))))) ?_
  refine hv0 29 S637 247 (.bool (!(decide ((Mj.length : Int) = (Lj.length : Int))))) ?_
  have b638 : (!(decide ((Mj.length : Int) = (Lj.length : Int)))) = false := by rw [decide_eq_true (by have q := hEj.len; omega)]; rfl
  refine Z1b 247 (.bool false) (congrArg Value.bool b638) ?_
  have g639 := Zj b638
  have g640 := of_decide_eq_true g639
  refine Z1h 30 S637 29 247 false 248 (pt x8 0) ?_
  refine Z1h 31 S637 29 247 false 249 (pt b 0) ?_ (he := fun _ H' => (Z8 rfl (by kernel_rfl) (H'.cell 11 rfl rfl)))
  refine Z1h 33 S637 29 247 false 251 (pt x8 1) ?_
  refine Z1h 34 S637 29 247 false 252 (pt r 0) ?_ (he := fun _ H' => (Z8 rfl (by kernel_rfl) (H'.cell 11 rfl rfl)))
  refine Z1h 35 S637 29 247 false 253 (pt r 0) ?_
  refine Z1h 36 S637 29 247 false 254 (pt r 0) ?_
  refine Z1h 37 S637 29 247 false 255 (.slice raj Lbj.length rcj) ?_ (he := fun _ H' => (Z8 rfl (by kernel_rfl) (H'.cell 7 rfl rfl)))
  refine Z09 38 rfl (by kernel_rfl) (by kernel_rfl) (by kernel_rfl) (fun _ _ _ h => h) S637 (ZD 29 247 false rfl (by kernel_rfl) rfl (by kernel_rfl)) (d := 256) (v := (.int .i64 ((Lbj.length : Int)))) rfl (fun _ H' => (by kernel_rfl)) ?_
  refine Z2R 32 rfl (by kernel_rfl) (ZD 29 247 false rfl (by kernel_rfl) rfl (by kernel_rfl)) (fun Kq kq => ?_)
  refine zdq 250 (ZaU w634 b mb Lbj (H635.at 5 rfl) (H635.at 6 rfl)) H635 ?_
  intro w642 H643
  have S645 := H643.pk [0, 1, 2, 3, 4, 5, 6, 7, 8, 9, 10, 11, 12, 13, 14, 15]
  refine kq _ _ S645 ?_
  clear kq Kq
  refine Z1h 39 S645 29 247 false 257 (.bool (!(decide ((Lbj.length : Int) = (Lbj.length : Int))))) ?_
  refine hv0 40 S645 258 (.bool (!(decide ((Lbj.length : Int) = (Lbj.length : Int))))) ?_
  refine zhf ?_
  apply ztn
  have b646 : (!(decide ((Lbj.length : Int) = (Lbj.length : Int)))) = false := by rw [decide_eq_true rfl]; rfl
  have g647 := Zj b646
  have g648 := of_decide_eq_true g647
  refine Z1w _ b646 ?_
  apply ZW
  apply Zw
  apply ztn
  apply Zq
  refine wv 43 (.int .i64 ((i : Int))) ?_
  refine zwi 44 ((i : Int) + 1) ?_
  refine wv 11 (.int .i64 ((i : Int) + 1)) ?_
  apply Zn
  have H649 : Sat w [Z0 t 121 (ZC F rp tm), ZQ tm nmV ceV Mj, Z0 tr 45 (Zx F rp laj Lj.length lcj), (Z9 laj Lj lcj), ZY Bj, Z0 b 110 (Zt mb), (Zc mb Lbj), Z0 r 98 (Zs raj Lbj.length rcj), (Zb raj Lbj rcj), Z7 w (ZL [Z0 t 121 [.int .i64 F, .int .i64 3, .int .i64 rp, .map (some tm)], ZQ tm nmV ceV M, Z0 tr 45 [.int .i64 F, .int .i64 3, .int .i64 rp, .slice la (L).length lc], (Z9 la L lc), ZY B, Z0 b 110 [.map (some mb)], (Zc mb Lb), Z0 r 98 [.slice ra (Lb).length rc], (Zb ra Lb rc)]).fp, Z0 x5 36 (Zv F), Z0 x8 40 (Zu b r)] w642 := H643.pk [0, 1, 2, 3, 4, 5, 6, 7, 8, 9, 10, 11]
  refine ZF ?_ _ ⟨(i + 1), Mj, Bj, Lj, laj, lcj, Lbj, raj, rcj, rfl, (by omega), (by omega), hEj, hlMj, hnj, (by omega), (fun A hA => hsubj A (hsub A hA)), H649, rfl⟩ (by omega)
  exact zs
 refine Z1w _ b32 ?_
 apply zxb
 apply ztn
 apply zsl
 refine wv 10 (.bool true) ?_
 apply znt
 apply ZI
 refine ze1 (.bool true) ?_
 have H650 := H30.pk [0, 1, 2, 3, 4, 5, 6, 7, 8, 9]
 exact ⟨Mi, Bi, Li, lai, lci, Lbi, rai, rci, rfl, hE, hlM, hn, (by omega), hsub, H650⟩
end Go.Proofs.YtoaifondpohniaaGreat
