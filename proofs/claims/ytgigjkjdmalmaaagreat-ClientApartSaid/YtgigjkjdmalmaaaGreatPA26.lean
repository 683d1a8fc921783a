/- WHAT IS PROVED: contracts and plain laws of ClX, ClY, ClJ, ClI. Conditions: stated with each. -/
import Derived.Shelf.SlicesQ.IndexFunc
import Derived.Test.YtgigjkjdmalmaaaGreatPA03
import Derived.Test.YtgigjkjdmalmaaaGreatPA16
import Derived.Test.YtgigjkjdmalmaaaGreatPA25
set_option maxHeartbeats 4000000
set_option maxRecDepth 100000
namespace Go.Proofs.YtgigjkjdmalmaaaGreat
open Go.RowKit
theorem Z3U (w : World) (c bb : Nat) (F Cn id : Int) (v : Value) (hcl : (Z5 c 112 [.int .i64 F, .int .i64 Cn, .int .i64 id, .pointer (some ⟨bb, 0, none⟩), v]).ok w) (hF : 1 ≤ F ∧ F ≤ 100) (hid : 0 ≤ id ∧ id ≤ 1000000) (q : Zl) (hP : ListAt Zi 1 w (.slice q.pa q.P.length q.pc) q.P) (hlP : q.P.length ≤ 1000) (hwy : q.dn = true) :
  Calls Tryz.prog 30 #[(.pointer (some ⟨c, 0, none⟩)), (.agg ⟨(([(.int .i64 (q.x.cl)), (.int .i64 (q.x.seq))] : List Value) ++ hc q.x.h ++ ([(.int .i64 (q.x.len)), (.int .i64 (q.x.sb)), (.int .i64 (q.x.sm)), ((.slice q.pa q.P.length q.pc))] : List Value) ++ hc q.no ++ ([(.map (some q.ms)), ((.pointer (q.cb.map fun z => ⟨z, 0, none⟩))), (.map (some q.ma)), (.map (some q.mr)), (.bool (q.op)), (.int .i64 (q.pl)), (.map (some q.mp)), (.bool (q.dn)), (Zu q.rp)] : List Value))⟩)] w fun e w' => e = .returned (.slice none 0 0) ∧ Upd [] w w' := by
 have H := Sat.start0 w
 refine Zx Tryz.func30 rfl 37 rfl (Nat.le_of_ble_eq_true rfl) ?_
 refine Zg ?_
 refine Zn ?_
 refine ZE (Z1 rfl) (fun K1 hK1 => ?_)
 refine Z0Y (vs := (([(.int .i64 (q.x.cl)), (.int .i64 (q.x.seq))] : List Value) ++ hc q.x.h ++ ([(.int .i64 (q.x.len)), (.int .i64 (q.x.sb)), (.int .i64 (q.x.sm)), ((.slice q.pa q.P.length q.pc))] : List Value) ++ hc q.no ++ ([(.map (some q.ms)), ((.pointer (q.cb.map fun z => ⟨z, 0, none⟩))), (.map (some q.ma)), (.map (some q.mr)), (.bool (q.op)), (.int .i64 (q.pl)), (.map (some q.mp)), (.bool (q.dn)), (Zu q.rp)] : List Value))) rfl H rfl rfl ?_
 intro b2 w3 (H4 : Sat w [Zb w (fun _ => False), Z5 b2 119 (([(.int .i64 (q.x.cl)), (.int .i64 (q.x.seq))] : List Value) ++ hc q.x.h ++ ([(.int .i64 (q.x.len)), (.int .i64 (q.x.sb)), (.int .i64 (q.x.sm)), ((.slice q.pa q.P.length q.pc))] : List Value) ++ hc q.no ++ ([(.map (some q.ms)), ((.pointer (q.cb.map fun z => ⟨z, 0, none⟩))), (.map (some q.ma)), (.map (some q.mr)), (.bool (q.op)), (.int .i64 (q.pl)), (.map (some q.mp)), (.bool (q.dn)), (Zu q.rp)] : List Value))] w3)
 refine hK1 _ _ ?_
 clear hK1 K1
 refine Z3 (Z1 rfl) (d := 4) (v := (.slice none 0 0)) rfl (by kernel_rfl) ?_
 refine Zm ?_
 refine Z7 ?_
 refine Zg ?_
 refine ZB ?_
 refine Zg ?_
 refine Zn ?_
 refine Z3 (Z1 rfl) (d := 6) (v := (.pointer (some ⟨b2, 77, none⟩))) rfl (by kernel_rfl) ?_
 refine Z3 (Z1 rfl) (d := 7) (v := (.bool (q.dn))) rfl (Zj rfl (by kernel_rfl) (H4.cell 1 rfl (by kernel_rfl))) ?_
 refine Z3 (Z1 rfl) (d := 5) (v := (.bool (q.dn))) rfl (by kernel_rfl) ?_
 refine Zm ?_
 refine Z7 ?_
 have b5 : (q.dn) = true := by exact hwy
 refine Zs 5 (.bool true) (congrArg Value.bool b5) ?_
 refine Z0u rfl ?_
 refine Zg ?_
 refine Zn ?_
 refine Z3 (Z1 rfl) (d := 4) (v := (.slice none 0 0)) rfl (by kernel_rfl) ?_
 refine Zm ?_
 refine Z7 ?_
 refine ZW ?_
 refine Z3S ?_
 refine Z1D ?_
 refine Z0J rfl (ZI (v := (.slice none 0 0)) rfl) ?_
 exact ⟨rfl, H4.upd 0 rfl [] (fun _ h => h.elim)⟩
theorem Z3r (w : World) (c bb g lc : Nat) (F Cn id : Int) (Q : List Zl) (hcl : (Z5 c 112 [.int .i64 F, .int .i64 Cn, .int .i64 id, .pointer (some ⟨bb, 0, none⟩), .slice (some ⟨g, 0, none⟩) Q.length lc]).ok w) (hrow : (Zd 119 79 (.slice (some ⟨g, 0, none⟩) Q.length lc) Q.length (Q.flatMap Zf)).ok w) (hlQ : Q.length ≤ 64) (k : Nat) (q : Zl) (hq : Q[k]? = some q) (hF : 1 ≤ F ∧ F ≤ 100) (hid : 0 ≤ id ∧ id ≤ 1000000) (hP : ListAt Zi 1 w (.slice q.pa q.P.length q.pc) q.P) (hlP : q.P.length ≤ 1000) (hwy : q.dn = true) (sq : Int) (hsq : sq = (k : Int) + 1) :
  Calls Tryz.prog 18 #[(.pointer (some ⟨c, 0, none⟩)), (.int .i64 (sq))] w fun e w' => e = .returned (.slice none 0 0) ∧ Upd [] w w' := by
 have H := Sat.start0 w
 have hkl : k < Q.length := (List.getElem?_eq_some_iff.1 hq).1
 refine Zx Tryz.func18 rfl 16 rfl (Nat.le_of_ble_eq_true rfl) ?_
 refine Zg ?_
 refine Zn ?_
 refine Z3 (Z1 rfl) (d := 4) (v := (.slice none 0 0)) rfl (by kernel_rfl) ?_
 refine Zm ?_
 refine Z7 ?_
 refine Zg ?_
 refine Zn ?_
 refine Z3 (Z1 rfl) (d := 6) (v := (.pointer (some ⟨c, 0, none⟩))) rfl (by kernel_rfl) ?_
 refine Z3 (Z1 rfl) (d := 7) (v := (.int .i64 (sq))) rfl (by kernel_rfl) ?_
 refine ZE (Z1 rfl) (fun K1 hK1 => ?_)
 refine ZC (d := 8) rfl (by kernel_rfl) (Z12 w c bb g lc F Cn id Q (H.roCk 0 rfl hcl (fun _ _ h => h)) (H.roCk 0 rfl hrow (fun _ _ h => h)) hlQ k q hq sq (by omega)) ?_
 rintro _ w2 ⟨rfl, u4⟩
 have H3 := H.keepU u4
 refine ⟨_, rfl, ?_⟩
 refine hK1 _ _ ?_
 clear hK1 K1
 refine Z3 (Z1 rfl) (d := 5) (v := (.pointer (some ⟨g, 0 + ((k : Int)).toNat * 79, none⟩))) rfl (by kernel_rfl) ?_
 refine Zm ?_
 refine Z7 ?_
 refine Zg ?_
 refine Zg ?_
 refine Zn ?_
 refine Z3 (Z1 rfl) (d := 9) (v := (.pointer (some ⟨g, 0 + ((k : Int)).toNat * 79, none⟩))) rfl (by kernel_rfl) ?_
 refine Z3 (Z1 rfl) (d := 10) (v := (.bool false)) rfl (by kernel_rfl) ?_
 refine Zm ?_
 refine Z7 ?_
 refine ZY rfl ?_
 refine ZN ?_
 refine Z7 ?_
 refine Zg ?_
 refine Zn ?_
 refine Z3 (Z1 rfl) (d := 11) (v := (.pointer (some ⟨c, 0, none⟩))) rfl (by kernel_rfl) ?_
 refine Z3 (Z1 rfl) (d := 12) (v := (.pointer (some ⟨g, 0 + ((k : Int)).toNat * 79, none⟩))) rfl (by kernel_rfl) ?_
 refine Z3 (Z1 rfl) (d := 13) (v := (.pointer (some ⟨g, 0 + ((k : Int)).toNat * 79, none⟩))) rfl (by kernel_rfl) ?_
 refine Z3 (Z1 rfl) (d := 14) (v := (.agg ⟨(([(.int .i64 (q.x.cl)), (.int .i64 (q.x.seq))] : List Value) ++ hc q.x.h ++ ([(.int .i64 (q.x.len)), (.int .i64 (q.x.sb)), (.int .i64 (q.x.sm)), ((.slice q.pa q.P.length q.pc))] : List Value) ++ hc q.no ++ ([(.map (some q.ms)), ((.pointer (q.cb.map fun z => ⟨z, 0, none⟩))), (.map (some q.ma)), (.map (some q.mr)), (.bool (q.op)), (.int .i64 (q.pl)), (.map (some q.mp)), (.bool (q.dn)), (Zu q.rp)] : List Value))⟩)) rfl (Z0D (vs := (([(.int .i64 (q.x.cl)), (.int .i64 (q.x.seq))] : List Value) ++ hc q.x.h ++ ([(.int .i64 (q.x.len)), (.int .i64 (q.x.sb)), (.int .i64 (q.x.sm)), ((.slice q.pa q.P.length q.pc))] : List Value) ++ hc q.no ++ ([(.map (some q.ms)), ((.pointer (q.cb.map fun z => ⟨z, 0, none⟩))), (.map (some q.ma)), (.map (some q.mr)), (.bool (q.op)), (.int .i64 (q.pl)), (.map (some q.mp)), (.bool (q.dn)), (Zu q.rp)] : List Value))) rfl (by kernel_rfl) (by kernel_rfl) (Nat.le_of_ble_eq_true (by kernel_rfl)) (Z1c (H3.roCk 0 rfl hrow (fun _ _ h => h)) rfl ZK hq 0 (show 0 + ((k : Int)).toNat * 79 = k * 79 + 0 by omega) (by kernel_rfl) (by kernel_rfl))) ?_
 refine ZE (Z1 rfl) (fun K5 hK5 => ?_)
 refine ZC (d := 15) rfl (by kernel_rfl) (Z3U w2 c bb F Cn id (.slice (some ⟨g, 0, none⟩) Q.length lc) (H3.roCk 0 rfl hcl (fun _ _ h => h)) hF hid q (ListAt.now H3 0 rfl hP) hlP hwy) ?_
 rintro _ w6 ⟨rfl, u7⟩
 have H8 := H3.keepU u7
 refine ⟨_, rfl, ?_⟩
 refine hK5 _ _ ?_
 clear hK5 K5
 refine Z3 (Z1 rfl) (d := 4) (v := (.slice none 0 0)) rfl (by kernel_rfl) ?_
 refine Zm ?_
 refine Z7 ?_
 refine ZW ?_
 refine Z0J rfl (ZI (v := (.slice none 0 0)) rfl) ?_
 exact ⟨rfl, H8.upd 0 rfl [] (fun _ h => h.elim)⟩
theorem Z3q (w : World) (c bb g lc : Nat) (F Cn id : Int) (Q : List Zl) (hcl : (Z5 c 112 [.int .i64 F, .int .i64 Cn, .int .i64 id, .pointer (some ⟨bb, 0, none⟩), .slice (some ⟨g, 0, none⟩) Q.length lc]).ok w) (hrow : (Zd 119 79 (.slice (some ⟨g, 0, none⟩) Q.length lc) Q.length (Q.flatMap Zf)).ok w) (hlQ : Q.length ≤ 64) (k : Nat) (q : Zl) (hq : Q[k]? = some q) (hF : 1 ≤ F ∧ F ≤ 100) (hid : 0 ≤ id ∧ id ≤ 1000000) (hwy : q.cb = none ∧ q.op = false ∧ q.pl = 0 ∧ q.dn = false ∧ q.rp = []) (sq : Int) (hsq : sq = (k : Int) + 1) :
  Calls Tryz.prog 18 #[(.pointer (some ⟨c, 0, none⟩)), (.int .i64 (sq))] w fun e w' => ∃ (da : Option Addr) (dc : Nat) (D : List OmR) (B : List Ck), e = .returned (.slice da D.length dc) ∧ (D.length : Int) = 3 * F + 1 ∧ (∀ j, j < D.length → Z4N (1000 + id) (⟨1, 0, 0, q.x, co0, none, 0, [], 0, none, 0, [], Z8⟩ : OmR) B j (D.getD j om0)) ∧ (ZF [Zd 82 295 (.slice da D.length dc) D.length (D.flatMap ZZ), Z0P B]).ok w' ∧ Upd [] w w' ∧ ∀ q_, (ZF [Zd 82 295 (.slice da D.length dc) D.length (D.flatMap ZZ), Z0P B]).fp q_ → w.heap.size ≤ q_ := by
 obtain ⟨x, pa, pc, P, no, ms, cb, ma, mr, op, pl, mp, dn, rp⟩ := q
 obtain ⟨h1, h2, h3, h4, h5⟩ := hwy
 obtain rfl : cb = none := h1
 obtain rfl : op = false := h2
 obtain rfl : pl = 0 := h3
 obtain rfl : dn = false := h4
 obtain rfl : rp = [] := h5
 have H := Sat.start0 w
 have hkl : k < Q.length := (List.getElem?_eq_some_iff.1 hq).1
 refine Zx Tryz.func18 rfl 16 rfl (Nat.le_of_ble_eq_true rfl) ?_
 refine Zg ?_
 refine Zn ?_
 refine Z3 (Z1 rfl) (d := 4) (v := (.slice none 0 0)) rfl (by kernel_rfl) ?_
 refine Zm ?_
 refine Z7 ?_
 refine Zg ?_
 refine Zn ?_
 refine Z3 (Z1 rfl) (d := 6) (v := (.pointer (some ⟨c, 0, none⟩))) rfl (by kernel_rfl) ?_
 refine Z3 (Z1 rfl) (d := 7) (v := (.int .i64 (sq))) rfl (by kernel_rfl) ?_
 refine ZE (Z1 rfl) (fun K1 hK1 => ?_)
 refine ZC (d := 8) rfl (by kernel_rfl) (Z12 w c bb g lc F Cn id Q (H.roCk 0 rfl hcl (fun _ _ h => h)) (H.roCk 0 rfl hrow (fun _ _ h => h)) hlQ k _ hq sq (by omega)) ?_
 rintro _ w2 ⟨rfl, u4⟩
 have H3 := H.keepU u4
 refine ⟨_, rfl, ?_⟩
 refine hK1 _ _ ?_
 clear hK1 K1
 refine Z3 (Z1 rfl) (d := 5) (v := (.pointer (some ⟨g, 0 + ((k : Int)).toNat * 79, none⟩))) rfl (by kernel_rfl) ?_
 refine Zm ?_
 refine Z7 ?_
 refine Zg ?_
 refine Zg ?_
 refine Zn ?_
 refine Z3 (Z1 rfl) (d := 9) (v := (.pointer (some ⟨g, 0 + ((k : Int)).toNat * 79, none⟩))) rfl (by kernel_rfl) ?_
 refine Z3 (Z1 rfl) (d := 10) (v := (.bool false)) rfl (by kernel_rfl) ?_
 refine Zm ?_
 refine Z7 ?_
 refine ZY rfl ?_
 refine ZN ?_
 refine Z7 ?_
 refine Zg ?_
 refine Zn ?_
 refine Z3 (Z1 rfl) (d := 11) (v := (.pointer (some ⟨c, 0, none⟩))) rfl (by kernel_rfl) ?_
 refine Z3 (Z1 rfl) (d := 12) (v := (.pointer (some ⟨g, 0 + ((k : Int)).toNat * 79, none⟩))) rfl (by kernel_rfl) ?_
 refine Z3 (Z1 rfl) (d := 13) (v := (.pointer (some ⟨g, 0 + ((k : Int)).toNat * 79, none⟩))) rfl (by kernel_rfl) ?_
 refine Z3 (Z1 rfl) (d := 14) (v := (.agg ⟨(([(.int .i64 (x.cl)), (.int .i64 (x.seq))] : List Value) ++ hc x.h ++ ([(.int .i64 (x.len)), (.int .i64 (x.sb)), (.int .i64 (x.sm)), ((.slice pa P.length pc))] : List Value) ++ hc no ++ ([(.map (some ms)), (.pointer none), (.map (some ma)), (.map (some mr)), (.bool false), (.int .i64 (0)), (.map (some mp)), (.bool false), (Zu ([]))] : List Value))⟩)) rfl (Z0D (vs := (([(.int .i64 (x.cl)), (.int .i64 (x.seq))] : List Value) ++ hc x.h ++ ([(.int .i64 (x.len)), (.int .i64 (x.sb)), (.int .i64 (x.sm)), ((.slice pa P.length pc))] : List Value) ++ hc no ++ ([(.map (some ms)), (.pointer none), (.map (some ma)), (.map (some mr)), (.bool false), (.int .i64 (0)), (.map (some mp)), (.bool false), (Zu ([]))] : List Value))) rfl (by kernel_rfl) (by kernel_rfl) (Nat.le_of_ble_eq_true (by kernel_rfl)) (Z1c (H3.roCk 0 rfl hrow (fun _ _ h => h)) rfl ZK hq 0 (show 0 + ((k : Int)).toNat * 79 = k * 79 + 0 by omega) (by kernel_rfl) (by kernel_rfl))) ?_
 refine ZE (Z1 rfl) (fun K5 hK5 => ?_)
 refine ZC (d := 15) rfl (by kernel_rfl) (Z17 w2 c bb F Cn id (.slice (some ⟨g, 0, none⟩) Q.length lc) (H3.roCk 0 rfl hcl (fun _ _ h => h)) hF hid x pa pc P no ms ma mr mp) ?_
 rintro _ w6 ⟨a7, c8, D9, B10, rfl, n11, o12, k13, p14, q15⟩
 have H16 : Sat w [Zb w (fun _ => False), ZF [Zd 82 295 (.slice a7 D9.length c8) D9.length (D9.flatMap ZZ), Z0P B10]] w6 := H3.addU p14 k13 q15
 have H17 : Sat w [Zb w (fun _ => False), Zd 82 295 (.slice a7 D9.length c8) D9.length (D9.flatMap ZZ), Z0P B10] w6 := H16.open 1 rfl
 refine ⟨_, rfl, ?_⟩
 refine hK5 _ _ ?_
 clear hK5 K5
 refine Z3 (Z1 rfl) (d := 4) (v := (.slice a7 D9.length c8)) rfl (by kernel_rfl) ?_
 refine Zm ?_
 refine Z7 ?_
 refine ZW ?_
 refine Z0J rfl (ZI (v := (.slice a7 D9.length c8)) rfl) ?_
 exact ⟨a7, c8, D9, B10, rfl, n11, o12, H17.fin [1, 2] (by decide) rfl, H17.upd 0 rfl [] (fun _ h => h.elim), H17.freshS 0 rfl (fun _ h => h) [1, 2] rfl rfl⟩
theorem Z4y (w : World) (q : Zl) (b : Nat) (ix : Int) (hb : w.heap[b]? = some (.cells ⟨[.int .i64 ix]⟩ 3 (0, 0))) :
  Calls Tryz.prog 65 #[(.agg ⟨(([(.int .i64 (q.x.cl)), (.int .i64 (q.x.seq))] : List Value) ++ hc q.x.h ++ ([(.int .i64 (q.x.len)), (.int .i64 (q.x.sb)), (.int .i64 (q.x.sm)), ((.slice q.pa q.P.length q.pc))] : List Value) ++ hc q.no ++ ([(.map (some q.ms)), ((.pointer (q.cb.map fun z => ⟨z, 0, none⟩))), (.map (some q.ma)), (.map (some q.mr)), (.bool (q.op)), (.int .i64 (q.pl)), (.map (some q.mp)), (.bool (q.dn)), (Zu q.rp)] : List Value))⟩), (.pointer (some ⟨b, 0, none⟩))] w fun e w' => e = .returned (.bool (q.op && decide (q.pl = ix))) ∧ Upd [] w w' := by
 have H := Sat.start0 w
 refine Zx Tryz.func65 rfl 12 rfl (Nat.le_of_ble_eq_true rfl) ?_
 refine Zg ?_
 refine Zn ?_
 refine ZE (Z1 rfl) (fun K1 hK1 => ?_)
 refine Z0Y (vs := (([(.int .i64 (q.x.cl)), (.int .i64 (q.x.seq))] : List Value) ++ hc q.x.h ++ ([(.int .i64 (q.x.len)), (.int .i64 (q.x.sb)), (.int .i64 (q.x.sm)), ((.slice q.pa q.P.length q.pc))] : List Value) ++ hc q.no ++ ([(.map (some q.ms)), ((.pointer (q.cb.map fun z => ⟨z, 0, none⟩))), (.map (some q.ma)), (.map (some q.mr)), (.bool (q.op)), (.int .i64 (q.pl)), (.map (some q.mp)), (.bool (q.dn)), (Zu q.rp)] : List Value))) rfl H rfl rfl ?_
 intro b2 w3 (H4 : Sat w [Zb w (fun _ => False), Z5 b2 119 (([(.int .i64 (q.x.cl)), (.int .i64 (q.x.seq))] : List Value) ++ hc q.x.h ++ ([(.int .i64 (q.x.len)), (.int .i64 (q.x.sb)), (.int .i64 (q.x.sm)), ((.slice q.pa q.P.length q.pc))] : List Value) ++ hc q.no ++ ([(.map (some q.ms)), ((.pointer (q.cb.map fun z => ⟨z, 0, none⟩))), (.map (some q.ma)), (.map (some q.mr)), (.bool (q.op)), (.int .i64 (q.pl)), (.map (some q.mp)), (.bool (q.dn)), (Zu q.rp)] : List Value))] w3)
 refine hK1 _ _ ?_
 clear hK1 K1
 refine Z3 (Z1 rfl) (d := 3) (v := (.bool false)) rfl (by kernel_rfl) ?_
 refine Zm ?_
 refine Z7 ?_
 refine Zg ?_
 refine Zn ?_
 refine Z3 (Z1 rfl) (d := 4) (v := (.pointer (some ⟨b2, 74, none⟩))) rfl (by kernel_rfl) ?_
 refine Z3 (Z1 rfl) (d := 5) (v := (.bool (q.op))) rfl (Zj rfl (by kernel_rfl) (H4.cell 1 rfl (by kernel_rfl))) ?_
 refine Z3 (Z1 rfl) (d := 6) (v := (.bool (q.op))) rfl (by kernel_rfl) ?_
 refine (Z06 (q.op)).elim (fun b5 => ?_) (fun b5 => ?_)
 ·refine Z01 6 (.bool true) (congrArg Value.bool b5) ?_
  refine Z3 (Zr 2 6 true rfl (by kernel_rfl) rfl (by kernel_rfl)) (d := 7) (v := (.pointer (some ⟨b2, 75, none⟩))) rfl (by kernel_rfl) ?_
  refine Z3 (Zr 2 6 true rfl (by kernel_rfl) rfl (by kernel_rfl)) (d := 8) (v := (.int .i64 (q.pl))) rfl (Zj rfl (by kernel_rfl) (H4.cell 1 rfl (by kernel_rfl))) ?_
  refine Z3 (Zr 2 6 true rfl (by kernel_rfl) rfl (by kernel_rfl)) (d := 9) (v := (.int .i64 (ix))) rfl (Zj rfl (by kernel_rfl) (H4.roCell 0 rfl hb (fun h => h) rfl)) ?_
  refine Z3 (Zr 2 6 true rfl (by kernel_rfl) rfl (by kernel_rfl)) (d := 10) (v := (.bool (decide (q.pl = ix)))) rfl (by kernel_rfl) ?_
  refine Z3 (Z1 rfl) (d := 11) (v := (.bool (decide (q.pl = ix)))) rfl (by kernel_rfl) ?_
  refine Z3 (Z1 rfl) (d := 3) (v := (.bool (decide (q.pl = ix)))) rfl (by kernel_rfl) ?_
  refine Zm ?_
  refine Z7 ?_
  refine ZW ?_
  refine Z0J rfl (ZI (v := (.bool (decide (q.pl = ix)))) rfl) ?_
  exact ⟨congrArg (fun z_ => Ending.returned (Value.bool z_)) (show ((decide (q.pl = ix))) = (q.op && decide (q.pl = ix)) by first | rfl | (rw [b5]; rfl) | (simp only [b5]; rfl)), H4.upd 0 rfl [] (fun _ h => h.elim)⟩
 ·refine Z01 6 (.bool false) (congrArg Value.bool b5) ?_
  refine ZR (Z03 2 6 true rfl (by kernel_rfl) rfl (by kernel_rfl)) rfl ?_
  refine ZR (Z03 2 6 true rfl (by kernel_rfl) rfl (by kernel_rfl)) rfl ?_
  refine ZR (Z03 2 6 true rfl (by kernel_rfl) rfl (by kernel_rfl)) rfl ?_
  refine ZR (Z03 2 6 true rfl (by kernel_rfl) rfl (by kernel_rfl)) rfl ?_
  refine Z3 (Z1 rfl) (d := 11) (v := (.bool false)) rfl (by kernel_rfl) ?_
  refine Z3 (Z1 rfl) (d := 3) (v := (.bool false)) rfl (by kernel_rfl) ?_
  refine Zm ?_
  refine Z7 ?_
  refine ZW ?_
  refine Z0J rfl (ZI (v := (.bool false)) rfl) ?_
  exact ⟨congrArg (fun z_ => Ending.returned (Value.bool z_)) (show (false) = (q.op && decide (q.pl = ix)) by first | rfl | (rw [b5]; rfl) | (simp only [b5]; rfl)), H4.upd 0 rfl [] (fun _ h => h.elim)⟩
end Go.Proofs.YtgigjkjdmalmaaaGreat
namespace Go.Proofs.YtgigjkjdmalmaaaGreat
open Go.RowKit Go.Shelf
def Z5O : Go.Shelf.Ren := ⟨fun | 6 => 64 | n => n, fun | 22 => 110 | 23 => 119 | 25 => 162 | 4 => 4 | 3 => 3 | 0 => 0 | n => n, fun | n => n⟩
theorem idxL : Go.Proofs.SlLaysH0.n6 Tryz.prog Z5O := {
 mixed := by kernel_rfl,
 f6 := ⟨Tryz.f64.name, by decide, Tryz.func64.trans (congrArg some (by kernel_rfl))⟩,
 t0 := Tryz.underlying0,
 a0 := Tryz.isAgg0,
 z0 := Tryz.sizeOf0,
 v0 := Tryz.zeroValue0,
 t3 := Tryz.underlying3,
 a3 := Tryz.isAgg3,
 z3 := Tryz.sizeOf3,
 v3 := Tryz.zeroValue3,
 t4 := Tryz.underlying4,
 a4 := Tryz.isAgg4,
 z4 := Tryz.sizeOf4,
 v4 := Tryz.zeroValue4,
 t22 := Tryz.underlying110,
 a22 := Tryz.isAgg110,
 z22 := Tryz.sizeOf110,
 v22 := Tryz.zeroValue110,
 t25 := Tryz.underlying162,
 a25 := Tryz.isAgg162,
 z25 := Tryz.sizeOf162,
 v25 := Tryz.zeroValue162 }
instance : Inhabited Zl := ⟨rq0⟩
def Z6j (ix : Int) (q : Zl) : Bool := q.op && decide (q.pl = ix)
def idxQ (Q : List Zl) (ix : Int) : Int := Lib.idxBy (fun _ y => Z6j ix y) Q default
theorem Z5P {Q : List Zl} {ix : Int} {k : Nat} {q : Zl} (hq : Q[k]? = some q) (h : Z6j ix q = true) (hn : ∀ j x, j < k → Q[j]? = some x → Z6j ix x = false) : idxQ Q ix = (k : Int) := by
 obtain ⟨hk, e⟩ := List.getElem?_eq_some_iff.1 hq
 have := Lib.idxBy_hit (fun _ y => Z6j ix y) Q Q.length k default hk (Nat.le_refl _) (by rw [getElem!_pos Q k hk, e]; exact h) (fun j hj => by
  rw [getElem!_pos Q j (by omega)]; exact hn j _ hj (List.getElem?_eq_getElem (by omega)))
 rw [List.take_length] at this
 exact this
theorem Z5Q (ix : Int) (b : Nat) (w : World) (hb : w.heap[b]? = some (.cells ⟨[.int .i64 ix]⟩ 3 (0, 0))) : PredBelow Tryz.prog 65 #[.pointer (some ⟨b, 0, none⟩)] (fun x => .agg (Zf x).toArray) (fun x => Z6j ix x) w := fun W x hW =>
 (Z4y W x b ix ((hW.block b (Z0Z hb)).trans hb)).mono fun _ _ ⟨he, hu⟩ => ⟨he, Upd.below hW hu (by simp) hW.size⟩
theorem Z4R (w : World) (b : Nat) (ix : Int) (hb : w.heap[b]? = some (.cells ⟨[.int .i64 ix]⟩ 3 (0, 0))) (g lc : Nat) (Q : List Zl) (hv : (Zd 119 79 (.slice (some ⟨g, 0, none⟩) Q.length lc) Q.length (Q.flatMap Zf)).ok w) (hl : Q.length ≤ 1000000) :
  Calls Tryz.prog 64 #[.slice (some ⟨g, 0, none⟩) Q.length lc, .func (.func 65) #[] #[.pointer (some ⟨b, 0, none⟩)]] w fun e w' => e = .returned (.int .i64 (idxQ Q ix)) ∧ Upd [] w w' := by
 have hg : g < w.heap.size := (Zd _ _ _ _ _).lt hv g rfl
 have h := AnyQ.slices_IndexFunc (P := Tryz.prog) idxL 79 Tryz.isAgg119 Tryz.sizeOf119 Zf ZK (fun x => Z6j ix x) 65 #[.pointer (some ⟨b, 0, none⟩)] (enters_of Tryz.func65 (by kernel_rfl) rfl) g 0 Q.length lc Q w (Z5Q ix b w hb) (Nat.le_refl _) (by omega) hg
  (fun j hj i u hi => Z00 hv rfl ZK (i := j) (x := Q[j]!) (by rw [getElem!_pos Q j hj, List.getElem?_eq_getElem hj]) i (by have := (List.getElem?_eq_some_iff.1 hi).1; rw [ZK] at this; simp [Nat.blt_eq]; omega) (by omega) hi)
 rw [List.take_length] at h
 exact h.mono fun _ _ ⟨he, hb⟩ => ⟨he, Below.upd hb⟩
end Go.Proofs.YtgigjkjdmalmaaaGreat
