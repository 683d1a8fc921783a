/- WHAT IS PROVED: contracts and plain laws of ClTg. Conditions: stated with each. -/
import Derived.Test.YtgigjkjdmalmaaaGreatPY05
import Derived.Test.YtgigjkjdmalmaaaGreatPY25
import Derived.Test.YtgigjkjdmalmaaaGreatPY30
import Derived.Test.YtgigjkjdmalmaaaGreatPY33
import Derived.Test.YtgigjkjdmalmaaaGreatPY34
set_option maxHeartbeats 4000000
set_option maxRecDepth 100000
namespace Go.Proofs.YtgigjkjdmalmaaaGreat
open Go.RowKit
abbrev Z0K (p0 : Nat) (p1 : List Z4) : Ck := ZI p0 ZK (Value.int .i64) (ZU p1)
abbrev Z14 (p0 : Int) (p1 : Int) (p2 : Int) (p3 : Nat) (p4 : Nat) (p5 : Nat) (p6 : Nat) : List Value := ([(.int .i64 p0), (.int .i64 p1), (.int .i64 p2), (pt p3 0), (.slice (some ⟨p4, 0, none⟩) p5 p6)] : List Value)
abbrev Z1y (p0 : Nat) : List Value := ([(.map (some p0))] : List Value)
abbrev Z9x (p0 : Option Addr) (p1 : List UInt8) (p2 : Nat) : Ck := Zc 5 1 (.slice p0 p1.length p2) p1.length (p1.flatMap ZH)
abbrev Z5Q (p0 : Z0) (p1 : Option Addr) (p2 : Nat) (p3 : Nat) : List Value := ([(.int .i64 p0.cl), (.int .i64 p0.seq)] : List Value) ++ hc p0.h ++ ([(.int .i64 p0.len), (.int .i64 p0.sb), (.int .i64 p0.sm), (.slice p1 p2 p3)] : List Value)
abbrev Z5R (p0 : Option Addr) (p1 : List Zk) (p2 : Nat) : Ck := Zc 49 38 (.slice p0 p1.length p2) p1.length (p1.flatMap ZV)
def TkS (w w' : World) (c bb mb g lc : Nat) (F Cn id : Int) (Q : List Zq) (Z : List (Zq × RqM)) (L : List Z4) (Bz : List Ck) (N : Nat) (da : Option Addr) (dc : Nat) (D : List OmR) : Prop :=
 ∃ (Q' : List Zq) (Z' : List (Zq × RqM)) (B' : List Ck), OutG F id D ∧ InvZ F id B' (N + 1) Q' Z' ∧ Q'.length = Q.length ∧ (∀ A ∈ Bz, A ∈ B') ∧ Sat w [Z3 c 112 [.int .i64 F, .int .i64 Cn, .int .i64 id, .pointer (some ⟨bb, 0, none⟩), .slice (some ⟨g, 0, none⟩) Q.length lc], Zc 119 79 (.slice (some ⟨g, 0, none⟩) Q.length lc) Q.length (Q'.flatMap Zh), Z1j rqP (Z'), Z0j (B'), Z3 bb 108 [.map (some mb)], (Z0K mb L), Zc 82 295 (.slice da D.length dc) D.length (D.flatMap Z0d), Z7 w (ZL [Z3 c 112 [.int .i64 F, .int .i64 Cn, .int .i64 id, .pointer (some ⟨bb, 0, none⟩), .slice (some ⟨g, 0, none⟩) Q.length lc], Zc 119 79 (.slice (some ⟨g, 0, none⟩) Q.length lc) Q.length (Q.flatMap Zh), Z1j rqP Z, Z0j Bz, Z3 bb 108 [.map (some mb)], (Z0K mb L)]).fp] w'
theorem Z3l {α : Type} {Q : List α} {k : Nat} {q : α} (h : Q[k]? = some q) : Q.set k q = Q := by
 obtain ⟨hk, rfl⟩ := List.getElem?_eq_some_iff.1 h
 exact List.set_getElem_self hk
theorem Z5F (w : World) (c bb mb g lc : Nat) (F Cn id : Int) (Q : List Zq) (Z : List (Zq × RqM)) (L : List Z4) (Bz : List Ck) (N : Nat) (hA : (ZL [Z3 c 112 [.int .i64 F, .int .i64 Cn, .int .i64 id, .pointer (some ⟨bb, 0, none⟩), .slice (some ⟨g, 0, none⟩) Q.length lc], Zc 119 79 (.slice (some ⟨g, 0, none⟩) Q.length lc) Q.length (Q.flatMap Zh), Z1j rqP Z, Z0j Bz, Z3 bb 108 [.map (some mb)], ZI mb ZK (Value.int .i64) (ZU L)]).ok w) (hlQ : Q.length ≤ 64) (hI : InvZ F id Bz N Q Z) (hN : N ≤ 900) (hF : 1 ≤ F ∧ F ≤ 3) (hid : 0 ≤ id ∧ id ≤ 1000000) (fr : Int) (s : Zk) (hs : Z3V s) : Calls Tryz.prog 37 #[.pointer (some ⟨c, 0, none⟩), .int .i64 fr, .agg ⟨ZV s⟩] w fun e w' => ∃ (da : Option Addr) (dc : Nat) (D : List OmR), e = .returned (.slice da D.length dc) ∧ TkS w w' c bb mb g lc F Cn id Q Z L Bz N da dc D := by
 have H := Sat.start _ hA
 by_cases h : ∃ (k : Nat) (q : Zq), Q[k]? = some q ∧ (s.cl = id ∧ s.seq = (k : Int) + 1 ∧ q.x.h = s.h)
 ·obtain ⟨k, q, hq, h1, h2, h3⟩ := h
  obtain ⟨m, hz, hok⟩ := hI.at hq
  obtain ⟨r, cl, sq, hh, tm, sb, sm⟩ := s
  obtain rfl : id = cl := h1.symm
  obtain rfl : q.x.h = hh := h3
  have h2 : sq = (k : Int) + 1 := h2
  have hcl : q.x.cl = id ∧ q.x.seq = (k : Int) + 1 := hok.cl
  by_cases hr : r = fr
  ·obtain rfl : fr = r := hr.symm
   have H1 := Sat.famOut (f := rqP) (H.pk [2, 0, 1, 3, 4, 5, 6]) hz
   refine (Z6x w c bb mb g lc F Cn id Q k q hq L m.M (H1.fn [6, 7, 0, 9, 10]) hlQ hok.M hF hid fr sq tm sb sm h2 ⟨hok.cl.1, hok.cl.2.trans h2.symm⟩ hs).mono ?_
   rintro e w' (⟨g1, rfl, hT⟩ | ⟨g1, g2, rfl, hT⟩ | ⟨g1, g2, z, sa, sc, S3, T, da, dc, D, B, rfl, hDn, hO, hS3, hT⟩)
   ·have H1 := H1.tl [Z3 c 112 (Z14 F Cn id bb g Q.length lc), Zc 119 79 (.slice (some ⟨g, 0, none⟩) Q.length lc) Q.length (Q.flatMap Zh), ZI q.ms (Value.int .i64) Z0h m.M, Z3 bb 108 (Z1y mb), (Z0K mb L)] [6, 7, 0, 9, 10] [1, 2, 3, 4, 5, 8, 11] hT [2, 5, 6, 7, 8, 9, 0, 1, 10, 3, 4, 11]
    have H2 := Sat.famIn (f := rqP) (Q := Z) (k := k) (q := (q, m)) (R := [Z3 c 112 (Z14 F Cn id bb g Q.length lc), Zc 119 79 (.slice (some ⟨g, 0, none⟩) Q.length lc) Q.length (Q.flatMap Zh), Z0j Bz, Z3 bb 108 (Z1y mb), (Z0K mb L), Z7 w (ZL [Z3 c 112 [.int .i64 F, .int .i64 Cn, .int .i64 id, .pointer (some ⟨bb, 0, none⟩), .slice (some ⟨g, 0, none⟩) Q.length lc], Zc 119 79 (.slice (some ⟨g, 0, none⟩) Q.length lc) Q.length (Q.flatMap Zh), Z1j rqP Z, Z0j Bz, Z3 bb 108 [.map (some mb)], (Z0K mb L)]).fp]) H1 (List.getElem?_eq_some_iff.1 hz).1
    have H3 := H2.addNil 82 295
    exact ⟨none, 0, [], rfl, Q, _, Bz, OutG.nil, (by have q_ := hI.set (N' := N + 1) (fun _ h_ => h_) (Nat.le_succ N) (k := k) (z' := (q, m)) (hok.more (fun _ h_ => h_) (Nat.le_succ N)); rw [Z3l hq] at q_; exact q_), rfl, (fun _ h_ => h_), H3.pk [1, 2, 0, 3, 4, 5, 7, 6]⟩
   ·have hM2 : StM F q.x (Z0U m.M fr (⟨fr, id, sq, q.x.h, tm, sb, sm⟩ : Zk)) := hok.M.add (s := (⟨fr, id, sq, q.x.h, tm, sb, sm⟩ : Zk)) (by have q_ := g1; simp only [Z1s, inB, Bool.and_eq_true, decide_eq_true_eq] at q_; exact q_.1.1.1.1) (by simp only [Z3x, Bool.and_eq_true, decide_eq_true_eq]; exact ⟨⟨hcl.1.symm, h2.trans hcl.2.symm⟩, by first | rfl | trivial⟩)
    have H4 := H1.tl [Z3 c 112 (Z14 F Cn id bb g Q.length lc), Zc 119 79 (.slice (some ⟨g, 0, none⟩) Q.length lc) Q.length (Q.flatMap Zh), ZI q.ms (Value.int .i64) Z0h (Z0U m.M fr (⟨fr, id, sq, q.x.h, tm, sb, sm⟩ : Zk)), Z3 bb 108 (Z1y mb), (Z0K mb L)] [6, 7, 0, 9, 10] [1, 2, 3, 4, 5, 8, 11] hT [2, 5, 6, 7, 8, 9, 0, 1, 10, 3, 4, 11]
    have H5 := Sat.famIn (f := rqP) (Q := Z) (k := k) (q := (q, (⟨(Z0U m.M fr (⟨fr, id, sq, q.x.h, tm, sb, sm⟩ : Zk)), m.A, m.R, m.S⟩ : RqM))) (R := [Z3 c 112 (Z14 F Cn id bb g Q.length lc), Zc 119 79 (.slice (some ⟨g, 0, none⟩) Q.length lc) Q.length (Q.flatMap Zh), Z0j Bz, Z3 bb 108 (Z1y mb), (Z0K mb L), Z7 w (ZL [Z3 c 112 [.int .i64 F, .int .i64 Cn, .int .i64 id, .pointer (some ⟨bb, 0, none⟩), .slice (some ⟨g, 0, none⟩) Q.length lc], Zc 119 79 (.slice (some ⟨g, 0, none⟩) Q.length lc) Q.length (Q.flatMap Zh), Z1j rqP Z, Z0j Bz, Z3 bb 108 [.map (some mb)], (Z0K mb L)]).fp]) H4 (List.getElem?_eq_some_iff.1 hz).1
    have H6 := H5.addNil 82 295
    exact ⟨none, 0, [], rfl, Q, _, Bz, OutG.nil, (by have q_ := hI.set (N' := N + 1) (fun _ h_ => h_) (Nat.le_succ N) (k := k) (z' := (q, (⟨(Z0U m.M fr (⟨fr, id, sq, q.x.h, tm, sb, sm⟩ : Zk)), m.A, m.R, m.S⟩ : RqM))) ⟨hok.cl, hok.P, hM2, Nat.le_succ_of_le hok.R, Nat.le_succ_of_le hok.S, hok.cb, hok.pl, hok.rp⟩; rw [Z3l hq] at q_; exact q_), rfl, (fun _ h_ => h_), H6.pk [1, 2, 0, 3, 4, 5, 7, 6]⟩
   have hM2 : StM F q.x (Z0U m.M fr (⟨fr, id, sq, q.x.h, tm, sb, sm⟩ : Zk)) := hok.M.add (s := (⟨fr, id, sq, q.x.h, tm, sb, sm⟩ : Zk)) (by have q_ := g1; simp only [Z1s, inB, Bool.and_eq_true, decide_eq_true_eq] at q_; exact q_.1.1.1.1) (by simp only [Z3x, Bool.and_eq_true, decide_eq_true_eq]; exact ⟨⟨hcl.1.symm, h2.trans hcl.2.symm⟩, by first | rfl | trivial⟩)
   have H7 := H1.tl [Z3 c 112 (Z14 F Cn id bb g Q.length lc), Zc 119 79 (.slice (some ⟨g, 0, none⟩) Q.length lc) Q.length ((Q.set k (⟨q.x, q.pa, q.pc, q.P, q.no, q.ms, some z, q.ma, q.mr, q.op, q.pl, q.mp, q.dn, q.rp⟩ : Zq)).flatMap Zh), ZI q.ms (Value.int .i64) Z0h (Z0U m.M fr (⟨fr, id, sq, q.x.h, tm, sb, sm⟩ : Zk)), Z3 bb 108 (Z1y mb), (Z0K mb L), Z3 z 57 (Z5Q q.x sa S3.length sc), (Z5R sa T sc), Zc 82 295 (.slice da D.length dc) D.length (D.flatMap Z0d), Z0j B] [6, 7, 0, 9, 10] [1, 2, 3, 4, 5, 8, 11] hT [2, 9, 10, 11, 12, 13, 0, 1, 14, 3, 4, 15, 5, 6, 7, 8]
   have H8 := Sat.famIn (f := rqP) (Q := Z) (k := k) (q := ((⟨q.x, q.pa, q.pc, q.P, q.no, q.ms, some z, q.ma, q.mr, q.op, q.pl, q.mp, q.dn, q.rp⟩ : Zq), (⟨(Z0U m.M fr (⟨fr, id, sq, q.x.h, tm, sb, sm⟩ : Zk)), m.A, m.R, m.S⟩ : RqM))) (R := [Z3 c 112 (Z14 F Cn id bb g Q.length lc), Zc 119 79 (.slice (some ⟨g, 0, none⟩) Q.length lc) Q.length ((Q.set k (⟨q.x, q.pa, q.pc, q.P, q.no, q.ms, some z, q.ma, q.mr, q.op, q.pl, q.mp, q.dn, q.rp⟩ : Zq)).flatMap Zh), Z0j Bz, Z3 bb 108 (Z1y mb), (Z0K mb L), Z7 w (ZL [Z3 c 112 [.int .i64 F, .int .i64 Cn, .int .i64 id, .pointer (some ⟨bb, 0, none⟩), .slice (some ⟨g, 0, none⟩) Q.length lc], Zc 119 79 (.slice (some ⟨g, 0, none⟩) Q.length lc) Q.length (Q.flatMap Zh), Z1j rqP Z, Z0j Bz, Z3 bb 108 [.map (some mb)], (Z0K mb L)]).fp, Z3 z 57 (Z5Q q.x sa S3.length sc), (Z5R sa T sc), Zc 82 295 (.slice da D.length dc) D.length (D.flatMap Z0d), Z0j B]) H7 (List.getElem?_eq_some_iff.1 hz).1
   have H9 := (H8.pk [3, 7, 0, 1, 2, 4, 5, 6, 8, 9, 10]).bag
   have H10 := H9.pk [1, 2, 3, 0, 4, 5, 6, 7, 8, 9]
   have H11 := (H10.pk [3, 7, 0, 1, 2, 4, 5, 6, 8, 9]).bag
   have H12 := H11.pk [1, 2, 3, 0, 4, 5, 6, 7, 8]
   have hct : CrtIn ((Z5R sa T sc) :: Z3 z 57 (Z5Q q.x sa S3.length sc) :: Bz) q.x z sa sc S3 T := ⟨List.mem_cons_of_mem _ List.mem_cons_self, List.mem_cons_self, hS3.1, hS3.2.1, hS3.2.2.1⟩
   have hsb : ∀ A ∈ Bz, A ∈ ((Z5R sa T sc) :: Z3 z 57 (Z5Q q.x sa S3.length sc) :: Bz) := fun _ h_ => List.mem_cons_of_mem _ (List.mem_cons_of_mem _ h_)
   exact ⟨da, dc, D, rfl, _, _, _, (.inr ⟨hDn, _, B, .inr (.inl rfl), hO⟩), (hI.set (N' := N + 1) hsb (Nat.le_succ N) (k := k) (z' := ((⟨q.x, q.pa, q.pc, q.P, q.no, q.ms, some z, q.ma, q.mr, q.op, q.pl, q.mp, q.dn, q.rp⟩ : Zq), (⟨(Z0U m.M fr (⟨fr, id, sq, q.x.h, tm, sb, sm⟩ : Zk)), m.A, m.R, m.S⟩ : RqM))) ⟨hok.cl, hok.P, hM2, Nat.le_succ_of_le hok.R, Nat.le_succ_of_le hok.S, (fun c_ h_ => by cases h_; exact ⟨sa, sc, S3, T, hct, hS3.2.2.2⟩), hok.pl, hok.rp⟩), List.length_set, hsb, H12.pk [1, 2, 0, 3, 4, 5, 7, 6]⟩
  refine (Z5H w c bb g lc F Cn id Q (H.at 0 rfl) (H.at 1 rfl) hlQ k q hq fr r sq tm sb sm h2 hr).mono ?_
  rintro e w' ⟨rfl, hu⟩
  have H13 := H.keepU hu
  have H14 := H13.addNil 82 295
  exact ⟨none, 0, [], rfl, Q, Z, Bz, OutG.nil, (hI.more (fun _ h_ => h_) (Nat.le_succ N)), rfl, (fun _ h_ => h_), H14.pk [0, 1, 2, 3, 4, 5, 7, 6]⟩
 refine (Z5G w c bb g lc F Cn id Q (H.at 0 rfl) (H.at 1 rfl) hlQ fr s (fun k q hq e_ => h ⟨k, q, hq, e_⟩)).mono ?_
 rintro e w' ⟨rfl, hu⟩
 have H15 := H.keepU hu
 have H16 := H15.addNil 82 295
 exact ⟨none, 0, [], rfl, Q, Z, Bz, OutG.nil, (hI.more (fun _ h_ => h_) (Nat.le_succ N)), rfl, (fun _ h_ => h_), H16.pk [0, 1, 2, 3, 4, 5, 7, 6]⟩
theorem Z5z (w : World) (c bb mb g lc : Nat) (F Cn id : Int) (Q : List Zq) (Z : List (Zq × RqM)) (L : List Z4) (Bz : List Ck) (N : Nat) (hA : (ZL [Z3 c 112 [.int .i64 F, .int .i64 Cn, .int .i64 id, .pointer (some ⟨bb, 0, none⟩), .slice (some ⟨g, 0, none⟩) Q.length lc], Zc 119 79 (.slice (some ⟨g, 0, none⟩) Q.length lc) Q.length (Q.flatMap Zh), Z1j rqP Z, Z0j Bz, Z3 bb 108 [.map (some mb)], ZI mb ZK (Value.int .i64) (ZU L)]).ok w) (hlQ : Q.length ≤ 64) (hI : InvZ F id Bz N Q Z) (hN : N ≤ 900) (hF : 1 ≤ F ∧ F ≤ 3) (hid : 0 ≤ id ∧ id ≤ 1000000) (fr : Int) (x : RcD) : Calls Tryz.prog 39 #[.pointer (some ⟨c, 0, none⟩), .int .i64 fr, .agg ⟨Z9g x⟩] w fun e w' => ∃ (da : Option Addr) (dc : Nat) (D : List OmR), e = .returned (.slice da D.length dc) ∧ TkS w w' c bb mb g lc F Cn id Q Z L Bz N da dc D := by
 have H := Sat.start _ hA
 by_cases h : ∃ (k : Nat) (q : Zq), Q[k]? = some q ∧ (x.e.cl = id ∧ x.e.sq = (k : Int) + 1 ∧ q.x.h = x.e.h)
 ·obtain ⟨k, q, hq, h1, h2, h3⟩ := h
  obtain ⟨m, hz, hok⟩ := hI.at hq
  obtain ⟨ix, cl, sq, hh, tm⟩ := x
  obtain rfl : id = cl := h1.symm
  obtain rfl : q.x.h = hh := h3
  have h2 : sq = (k : Int) + 1 := h2
  have H1 := Sat.famOut (f := rqP) (H.pk [2, 0, 1, 3, 4, 5, 6]) hz
  have hR1 : m.R.length ≤ N := hok.R
  have hR2 : (Z0U m.R fr (⟨ix, ⟨id, sq, q.x.h, tm⟩⟩ : RcD)).length ≤ N + 1 := Nat.le_trans Z3Z (by omega)
  refine (Z6v w c bb g lc F Cn id Q k q hq m.R (H1.fn [6, 7, 2, 4]) hlQ (by omega) (by have q_ := hok.P; show q.P.length ≤ 1000; exact Nat.le_trans q_ (by decide)) (by omega) hid fr ix sq tm h2).mono ?_
  rintro e w' (⟨g1, rfl, hT⟩ | ⟨g1, da, dc, D, B, rfl, hDn, hO, hT⟩)
  ·have H1 := H1.tl [Z3 c 112 (Z14 F Cn id bb g Q.length lc), Zc 119 79 (.slice (some ⟨g, 0, none⟩) Q.length lc) Q.length (Q.flatMap Zh), ZI q.mr (Value.int .i64) rcV (Z0U m.R fr (⟨ix, ⟨id, sq, q.x.h, tm⟩⟩ : RcD)), (Z9x q.pa q.P q.pc)] [6, 7, 2, 4] [0, 1, 3, 5, 8, 9, 10, 11] hT [4, 5, 2, 6, 3, 7, 0, 1, 8, 9, 10, 11]
   have H2 := Sat.famIn (f := rqP) (Q := Z) (k := k) (q := (q, (⟨m.M, m.A, (Z0U m.R fr (⟨ix, ⟨id, sq, q.x.h, tm⟩⟩ : RcD)), m.S⟩ : RqM))) (R := [Z3 c 112 (Z14 F Cn id bb g Q.length lc), Zc 119 79 (.slice (some ⟨g, 0, none⟩) Q.length lc) Q.length (Q.flatMap Zh), Z0j Bz, Z3 bb 108 (Z1y mb), (Z0K mb L), Z7 w (ZL [Z3 c 112 [.int .i64 F, .int .i64 Cn, .int .i64 id, .pointer (some ⟨bb, 0, none⟩), .slice (some ⟨g, 0, none⟩) Q.length lc], Zc 119 79 (.slice (some ⟨g, 0, none⟩) Q.length lc) Q.length (Q.flatMap Zh), Z1j rqP Z, Z0j Bz, Z3 bb 108 [.map (some mb)], (Z0K mb L)]).fp]) H1 (List.getElem?_eq_some_iff.1 hz).1
   have H3 := H2.addNil 82 295
   exact ⟨none, 0, [], rfl, Q, _, Bz, OutG.nil, (by have q_ := hI.set (N' := N + 1) (fun _ h_ => h_) (Nat.le_succ N) (k := k) (z' := (q, (⟨m.M, m.A, (Z0U m.R fr (⟨ix, ⟨id, sq, q.x.h, tm⟩⟩ : RcD)), m.S⟩ : RqM))) ⟨hok.cl, hok.P, hok.M, hR2, Nat.le_succ_of_le hok.S, hok.cb, hok.pl, hok.rp⟩; rw [Z3l hq] at q_; exact q_), rfl, (fun _ h_ => h_), H3.pk [1, 2, 0, 3, 4, 5, 7, 6]⟩
  have H4 := H1.tl [Z3 c 112 (Z14 F Cn id bb g Q.length lc), Zc 119 79 (.slice (some ⟨g, 0, none⟩) Q.length lc) Q.length ((Q.set k (⟨q.x, q.pa, q.pc, q.P, q.no, q.ms, q.cb, q.ma, q.mr, true, ((Zn (Z0U m.R fr (⟨ix, ⟨id, sq, q.x.h, tm⟩⟩ : RcD)) fr).getD rc0).i, q.mp, q.dn, q.rp⟩ : Zq)).flatMap Zh), ZI q.mr (Value.int .i64) rcV (Z0U m.R fr (⟨ix, ⟨id, sq, q.x.h, tm⟩⟩ : RcD)), (Z9x q.pa q.P q.pc), Zc 82 295 (.slice da D.length dc) D.length (D.flatMap Z0d), Z0j B] [6, 7, 2, 4] [0, 1, 3, 5, 8, 9, 10, 11] hT [6, 7, 2, 8, 3, 9, 0, 1, 10, 11, 12, 13, 4, 5]
  have H5 := Sat.famIn (f := rqP) (Q := Z) (k := k) (q := ((⟨q.x, q.pa, q.pc, q.P, q.no, q.ms, q.cb, q.ma, q.mr, true, ((Zn (Z0U m.R fr (⟨ix, ⟨id, sq, q.x.h, tm⟩⟩ : RcD)) fr).getD rc0).i, q.mp, q.dn, q.rp⟩ : Zq), (⟨m.M, m.A, (Z0U m.R fr (⟨ix, ⟨id, sq, q.x.h, tm⟩⟩ : RcD)), m.S⟩ : RqM))) (R := [Z3 c 112 (Z14 F Cn id bb g Q.length lc), Zc 119 79 (.slice (some ⟨g, 0, none⟩) Q.length lc) Q.length ((Q.set k (⟨q.x, q.pa, q.pc, q.P, q.no, q.ms, q.cb, q.ma, q.mr, true, ((Zn (Z0U m.R fr (⟨ix, ⟨id, sq, q.x.h, tm⟩⟩ : RcD)) fr).getD rc0).i, q.mp, q.dn, q.rp⟩ : Zq)).flatMap Zh), Z0j Bz, Z3 bb 108 (Z1y mb), (Z0K mb L), Z7 w (ZL [Z3 c 112 [.int .i64 F, .int .i64 Cn, .int .i64 id, .pointer (some ⟨bb, 0, none⟩), .slice (some ⟨g, 0, none⟩) Q.length lc], Zc 119 79 (.slice (some ⟨g, 0, none⟩) Q.length lc) Q.length (Q.flatMap Zh), Z1j rqP Z, Z0j Bz, Z3 bb 108 [.map (some mb)], (Z0K mb L)]).fp, Zc 82 295 (.slice da D.length dc) D.length (D.flatMap Z0d), Z0j B]) H4 (List.getElem?_eq_some_iff.1 hz).1
  exact ⟨da, dc, D, rfl, _, _, Bz, (.inr ⟨hDn, _, B, .inr (.inr rfl), hO⟩), (hI.set (N' := N + 1) (fun _ h_ => h_) (Nat.le_succ N) (k := k) (z' := ((⟨q.x, q.pa, q.pc, q.P, q.no, q.ms, q.cb, q.ma, q.mr, true, ((Zn (Z0U m.R fr (⟨ix, ⟨id, sq, q.x.h, tm⟩⟩ : RcD)) fr).getD rc0).i, q.mp, q.dn, q.rp⟩ : Zq), (⟨m.M, m.A, (Z0U m.R fr (⟨ix, ⟨id, sq, q.x.h, tm⟩⟩ : RcD)), m.S⟩ : RqM))) ⟨hok.cl, hok.P, hok.M, hR2, Nat.le_succ_of_le hok.S, hok.cb, (fun h_ => nomatch h_), hok.rp⟩), List.length_set, (fun _ h_ => h_), H5.pk [1, 2, 0, 3, 4, 5, 7, 6]⟩
 refine (Z5A w c bb g lc F Cn id Q (H.at 0 rfl) (H.at 1 rfl) hlQ fr x (fun k q hq e_ => h ⟨k, q, hq, e_⟩)).mono ?_
 rintro e w' ⟨rfl, hu⟩
 have H6 := H.keepU hu
 have H7 := H6.addNil 82 295
 exact ⟨none, 0, [], rfl, Q, Z, Bz, OutG.nil, (hI.more (fun _ h_ => h_) (Nat.le_succ N)), rfl, (fun _ h_ => h_), H7.pk [0, 1, 2, 3, 4, 5, 7, 6]⟩
theorem Z5D (w : World) (c bb mb g lc : Nat) (F Cn id : Int) (Q : List Zq) (Z : List (Zq × RqM)) (L : List Z4) (Bz : List Ck) (N : Nat) (hA : (ZL [Z3 c 112 [.int .i64 F, .int .i64 Cn, .int .i64 id, .pointer (some ⟨bb, 0, none⟩), .slice (some ⟨g, 0, none⟩) Q.length lc], Zc 119 79 (.slice (some ⟨g, 0, none⟩) Q.length lc) Q.length (Q.flatMap Zh), Z1j rqP Z, Z0j Bz, Z3 bb 108 [.map (some mb)], ZI mb ZK (Value.int .i64) (ZU L)]).ok w) (hlQ : Q.length ≤ 64) (hI : InvZ F id Bz N Q Z) (hN : N ≤ 900) (hF : 1 ≤ F ∧ F ≤ 3) (hid : 0 ≤ id ∧ id ≤ 1000000) (fr ix : Int) (tx : List UInt8) : Calls Tryz.prog 40 #[.pointer (some ⟨c, 0, none⟩), .int .i64 fr, .int .i64 ix, ZD tx] w fun e w' => e = .returned (.tuple #[]) ∧ TkS w w' c bb mb g lc F Cn id Q Z L Bz N none 0 [] := by
 have H := Sat.start _ hA
 rcases Z9p Q ix with hk | ⟨k, q, hq, hk, hop⟩
 ·refine (Z5B w c bb g lc F Cn id Q (H.at 0 rfl) (H.at 1 rfl) hlQ fr ix tx hk).mono ?_
  rintro e w' ⟨rfl, hu⟩
  have H1 := H.keepU hu
  have H2 := H1.addNil 82 295
  exact ⟨rfl, Q, Z, Bz, OutG.nil, (hI.more (fun _ h_ => h_) (Nat.le_succ N)), rfl, (fun _ h_ => h_), H2.pk [0, 1, 2, 3, 4, 5, 7, 6]⟩
 obtain ⟨m, hz, hok⟩ := hI.at hq
 have H1 := Sat.famOut (f := rqP) (H.pk [2, 0, 1, 3, 4, 5, 6]) hz
 have hS1 : m.S.length ≤ N := hok.S
 have hS2 : (Z0U m.S fr tx).length ≤ N + 1 := Nat.le_trans Z3Z (by omega)
 refine (Z6w w c bb g lc F Cn id Q k q hq m.S (H1.fn [6, 7, 3]) hlQ (by omega) (by omega) hid fr ix tx hk).mono ?_
 rintro e w' ⟨rfl, (⟨g1, hT⟩ | ⟨g1, hT⟩)⟩
 ·have H3 := H1.tl [Z3 c 112 (Z14 F Cn id bb g Q.length lc), Zc 119 79 (.slice (some ⟨g, 0, none⟩) Q.length lc) Q.length (Q.flatMap Zh), ZI q.mp (Value.int .i64) ZD (Z0U m.S fr tx)] [6, 7, 3] [0, 1, 2, 4, 5, 8, 9, 10, 11] hT [3, 4, 5, 2, 6, 7, 0, 1, 8, 9, 10, 11]
  have H4 := Sat.famIn (f := rqP) (Q := Z) (k := k) (q := (q, (⟨m.M, m.A, m.R, (Z0U m.S fr tx)⟩ : RqM))) (R := [Z3 c 112 (Z14 F Cn id bb g Q.length lc), Zc 119 79 (.slice (some ⟨g, 0, none⟩) Q.length lc) Q.length (Q.flatMap Zh), Z0j Bz, Z3 bb 108 (Z1y mb), (Z0K mb L), Z7 w (ZL [Z3 c 112 [.int .i64 F, .int .i64 Cn, .int .i64 id, .pointer (some ⟨bb, 0, none⟩), .slice (some ⟨g, 0, none⟩) Q.length lc], Zc 119 79 (.slice (some ⟨g, 0, none⟩) Q.length lc) Q.length (Q.flatMap Zh), Z1j rqP Z, Z0j Bz, Z3 bb 108 [.map (some mb)], (Z0K mb L)]).fp]) H3 (List.getElem?_eq_some_iff.1 hz).1
  have H5 := H4.addNil 82 295
  exact ⟨rfl, Q, _, Bz, OutG.nil, (by have q_ := hI.set (N' := N + 1) (fun _ h_ => h_) (Nat.le_succ N) (k := k) (z' := (q, (⟨m.M, m.A, m.R, (Z0U m.S fr tx)⟩ : RqM))) ⟨hok.cl, hok.P, hok.M, Nat.le_succ_of_le hok.R, hS2, hok.cb, hok.pl, hok.rp⟩; rw [Z3l hq] at q_; exact q_), rfl, (fun _ h_ => h_), H5.pk [1, 2, 0, 3, 4, 5, 7, 6]⟩
 have H6 := H1.tl [Z3 c 112 (Z14 F Cn id bb g Q.length lc), Zc 119 79 (.slice (some ⟨g, 0, none⟩) Q.length lc) Q.length ((Q.set k (⟨q.x, q.pa, q.pc, q.P, q.no, q.ms, q.cb, q.ma, q.mr, q.op, q.pl, q.mp, true, ((Zn (Z0U m.S fr tx) fr).getD [])⟩ : Zq)).flatMap Zh), ZI q.mp (Value.int .i64) ZD (Z0U m.S fr tx)] [6, 7, 3] [0, 1, 2, 4, 5, 8, 9, 10, 11] hT [3, 4, 5, 2, 6, 7, 0, 1, 8, 9, 10, 11]
 have H7 := Sat.famIn (f := rqP) (Q := Z) (k := k) (q := ((⟨q.x, q.pa, q.pc, q.P, q.no, q.ms, q.cb, q.ma, q.mr, q.op, q.pl, q.mp, true, ((Zn (Z0U m.S fr tx) fr).getD [])⟩ : Zq), (⟨m.M, m.A, m.R, (Z0U m.S fr tx)⟩ : RqM))) (R := [Z3 c 112 (Z14 F Cn id bb g Q.length lc), Zc 119 79 (.slice (some ⟨g, 0, none⟩) Q.length lc) Q.length ((Q.set k (⟨q.x, q.pa, q.pc, q.P, q.no, q.ms, q.cb, q.ma, q.mr, q.op, q.pl, q.mp, true, ((Zn (Z0U m.S fr tx) fr).getD [])⟩ : Zq)).flatMap Zh), Z0j Bz, Z3 bb 108 (Z1y mb), (Z0K mb L), Z7 w (ZL [Z3 c 112 [.int .i64 F, .int .i64 Cn, .int .i64 id, .pointer (some ⟨bb, 0, none⟩), .slice (some ⟨g, 0, none⟩) Q.length lc], Zc 119 79 (.slice (some ⟨g, 0, none⟩) Q.length lc) Q.length (Q.flatMap Zh), Z1j rqP Z, Z0j Bz, Z3 bb 108 [.map (some mb)], (Z0K mb L)]).fp]) H6 (List.getElem?_eq_some_iff.1 hz).1
 have H8 := H7.addNil 82 295
 exact ⟨rfl, _, _, Bz, OutG.nil, (hI.set (N' := N + 1) (fun _ h_ => h_) (Nat.le_succ N) (k := k) (z' := ((⟨q.x, q.pa, q.pc, q.P, q.no, q.ms, q.cb, q.ma, q.mr, q.op, q.pl, q.mp, true, ((Zn (Z0U m.S fr tx) fr).getD [])⟩ : Zq), (⟨m.M, m.A, m.R, (Z0U m.S fr tx)⟩ : RqM))) ⟨hok.cl, hok.P, hok.M, Nat.le_succ_of_le hok.R, hS2, hok.cb, hok.pl, (fun h_ => nomatch h_)⟩), List.length_set, (fun _ h_ => h_), H8.pk [1, 2, 0, 3, 4, 5, 7, 6]⟩
theorem Z5w (w : World) (c bb mb g lc : Nat) (F Cn id : Int) (Q : List Zq) (Z : List (Zq × RqM)) (L : List Z4) (Bz : List Ck) (N : Nat) (hA : (ZL [Z3 c 112 [.int .i64 F, .int .i64 Cn, .int .i64 id, .pointer (some ⟨bb, 0, none⟩), .slice (some ⟨g, 0, none⟩) Q.length lc], Zc 119 79 (.slice (some ⟨g, 0, none⟩) Q.length lc) Q.length (Q.flatMap Zh), Z1j rqP Z, Z0j Bz, Z3 bb 108 [.map (some mb)], ZI mb ZK (Value.int .i64) (ZU L)]).ok w) (hlQ : Q.length ≤ 64) (hI : InvZ F id Bz N Q Z) (hN : N ≤ 900) (hF : 1 ≤ F ∧ F ≤ 3) (hid : 0 ≤ id ∧ id ≤ 1000000) (fr : Int) (s : Zk) (hs : Z3V s) : Calls Tryz.prog 38 #[.pointer (some ⟨c, 0, none⟩), .int .i64 fr, .agg ⟨ZV s⟩] w fun e w' => e = .returned (.tuple #[]) ∧ TkS w w' c bb mb g lc F Cn id Q Z L Bz N none 0 [] := by
 have H := Sat.start _ hA
 by_cases h : ∃ (k : Nat) (q : Zq), Q[k]? = some q ∧ (s.cl = id ∧ s.seq = (k : Int) + 1 ∧ q.x.h = s.h)
 ·obtain ⟨k, q, hq, h1, h2, h3⟩ := h
  obtain ⟨m, hz, hok⟩ := hI.at hq
  obtain ⟨r, cl, sq, hh, tm, sb, sm⟩ := s
  obtain rfl : id = cl := h1.symm
  obtain rfl : q.x.h = hh := h3
  have h2 : sq = (k : Int) + 1 := h2
  rcases Option.eq_none_or_eq_some q.cb with hcb | ⟨z, hcb⟩
  ·refine (Z5u w c bb g lc F Cn id Q (H.at 0 rfl) (H.at 1 rfl) hlQ k q hq hcb fr r sq tm sb sm h2).mono ?_
   rintro e w' ⟨rfl, hu⟩
   have H1 := H.keepU hu
   have H2 := H1.addNil 82 295
   exact ⟨rfl, Q, Z, Bz, OutG.nil, (hI.more (fun _ h_ => h_) (Nat.le_succ N)), rfl, (fun _ h_ => h_), H2.pk [0, 1, 2, 3, 4, 5, 7, 6]⟩
  obtain ⟨sa, sc, S, T, hct, hSl⟩ := hok.cb z hcb
  have H1 := Sat.famOut (f := rqP) (H.pk [2, 0, 1, 3, 4, 5, 6]) hz
  refine (Z6u w c bb mb g lc F Cn id Q k q hq L m.A Bz (H1.fn [6, 7, 1, 8, 9, 10]) hlQ z hcb sa sc S T hct (by omega) hF fr r sq tm sb sm h2 hs).mono ?_
  rintro e w' ⟨rfl, A2, hT⟩
  have H3 := H1.tl [Z3 c 112 (Z14 F Cn id bb g Q.length lc), Zc 119 79 (.slice (some ⟨g, 0, none⟩) Q.length lc) Q.length (Q.flatMap Zh), ZI q.ma (Value.int .i64) Value.bool A2, Z0j Bz, Z3 bb 108 (Z1y mb), (Z0K mb L)] [6, 7, 1, 8, 9, 10] [0, 2, 3, 4, 5, 11] hT [6, 2, 7, 8, 9, 10, 0, 1, 3, 4, 5, 11]
  have H4 := Sat.famIn (f := rqP) (Q := Z) (k := k) (q := (q, (⟨m.M, A2, m.R, m.S⟩ : RqM))) (R := [Z3 c 112 (Z14 F Cn id bb g Q.length lc), Zc 119 79 (.slice (some ⟨g, 0, none⟩) Q.length lc) Q.length (Q.flatMap Zh), Z0j Bz, Z3 bb 108 (Z1y mb), (Z0K mb L), Z7 w (ZL [Z3 c 112 [.int .i64 F, .int .i64 Cn, .int .i64 id, .pointer (some ⟨bb, 0, none⟩), .slice (some ⟨g, 0, none⟩) Q.length lc], Zc 119 79 (.slice (some ⟨g, 0, none⟩) Q.length lc) Q.length (Q.flatMap Zh), Z1j rqP Z, Z0j Bz, Z3 bb 108 [.map (some mb)], (Z0K mb L)]).fp]) H3 (List.getElem?_eq_some_iff.1 hz).1
  have H5 := H4.addNil 82 295
  exact ⟨rfl, Q, _, Bz, OutG.nil, (by have q_ := hI.set (N' := N + 1) (fun _ h_ => h_) (Nat.le_succ N) (k := k) (z' := (q, (⟨m.M, A2, m.R, m.S⟩ : RqM))) ⟨hok.cl, hok.P, hok.M, Nat.le_succ_of_le hok.R, Nat.le_succ_of_le hok.S, hok.cb, hok.pl, hok.rp⟩; rw [Z3l hq] at q_; exact q_), rfl, (fun _ h_ => h_), H5.pk [1, 2, 0, 3, 4, 5, 7, 6]⟩
 refine (Z5x w c bb g lc F Cn id Q (H.at 0 rfl) (H.at 1 rfl) hlQ fr s (fun k q hq e_ => h ⟨k, q, hq, e_⟩)).mono ?_
 rintro e w' ⟨rfl, hu⟩
 have H6 := H.keepU hu
 have H7 := H6.addNil 82 295
 exact ⟨rfl, Q, Z, Bz, OutG.nil, (hI.more (fun _ h_ => h_) (Nat.le_succ N)), rfl, (fun _ h_ => h_), H7.pk [0, 1, 2, 3, 4, 5, 7, 6]⟩
end Go.Proofs.YtgigjkjdmalmaaaGreat
