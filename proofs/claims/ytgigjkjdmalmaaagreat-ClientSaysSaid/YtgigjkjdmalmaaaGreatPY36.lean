/- WHAT IS PROVED: contracts and plain laws of ClX, ClY. Conditions: stated with each. -/
import Derived.Test.YtgigjkjdmalmaaaGreatPY05
import Derived.Test.YtgigjkjdmalmaaaGreatPY23
set_option maxHeartbeats 4000000
set_option maxRecDepth 100000
namespace Go.Proofs.YtgigjkjdmalmaaaGreat
open Go.RowKit
abbrev Z55 (p0 : Int) (p1 : Int) : List Value := ([(.int .i64 p0), (.int .i64 p1)] : List Value)
abbrev Z56 (p0 : Int) (p1 : Int) (p2 : Int) (p3 : Option Addr) (p4 : Nat) (p5 : Nat) : List Value := ([(.int .i64 p0), (.int .i64 p1), (.int .i64 p2), (.slice p3 p4 p5)] : List Value)
theorem Z7e (w : World) (c bb : Nat) (F Cn id : Int) (v : Value) (hcl : (Z3 c 112 [.int .i64 F, .int .i64 Cn, .int .i64 id, .pointer (some ⟨bb, 0, none⟩), v]).ok w) (hF : 1 ≤ F ∧ F ≤ 100) (hid : 0 ≤ id ∧ id ≤ 1000000) (q : Zq) (hP : ListAt ZH 1 w (.slice q.pa q.P.length q.pc) q.P) (hlP : q.P.length ≤ 1000) (hwy : q.dn = true) :
  Calls Tryz.prog 30 #[(.pointer (some ⟨c, 0, none⟩)), (.agg ⟨(([(.int .i64 (q.x.cl)), (.int .i64 (q.x.seq))] : List Value) ++ hc q.x.h ++ ([(.int .i64 (q.x.len)), (.int .i64 (q.x.sb)), (.int .i64 (q.x.sm)), ((.slice q.pa q.P.length q.pc))] : List Value) ++ hc q.no ++ ([(.map (some q.ms)), ((.pointer (q.cb.map fun z => ⟨z, 0, none⟩))), (.map (some q.ma)), (.map (some q.mr)), (.bool (q.op)), (.int .i64 (q.pl)), (.map (some q.mp)), (.bool (q.dn)), (ZD q.rp)] : List Value))⟩)] w fun e w' => e = .returned (.slice none 0 0) ∧ Upd [] w w' := by
 have H := Sat.start0 w
 refine Zg Tryz.func30 rfl 37 rfl (Nat.le_of_ble_eq_true rfl) ?_
 apply zsl
 refine zwd fun Kq kq => ?_
 refine zdb ((Z55 q.x.cl q.x.seq) ++ hc q.x.h ++ (Z56 q.x.len q.x.sb q.x.sm q.pa q.P.length q.pc) ++ hc q.no ++ ([(.map (some q.ms)), ((.pointer (q.cb.map fun z => ⟨z, 0, none⟩))), (.map (some q.ma)), (.map (some q.mr)), (.bool (q.op)), (.int .i64 (q.pl)), (.map (some q.mp)), (.bool (q.dn)), (ZD q.rp)] : List Value)) H ?_
 intro b2 w3 H4
 refine kq _ _ ?_
 clear kq Kq
 refine wv 4 (.slice none 0 0) ?_
 apply znt
 apply Zf
 apply ZA
 apply zsl
 refine wv 6 (pt b2 77) ?_
 refine zw1 7 (.bool (q.dn)) (H4.cell 1 rfl (by kernel_rfl)) ?_
 refine wv 5 (.bool (q.dn)) ?_
 apply znt
 have b5 : (q.dn) = true := by exact hwy
 refine Z1q _ b5 ?_
 apply zsl
 refine wv 4 (.slice none 0 0) ?_
 apply znt
 apply Zz
 apply Z27
 apply ZY
 refine ze1 (.slice none 0 0) ?_
 exact ⟨rfl, H4.upd 0 rfl [] (fun _ h => h.elim)⟩
theorem Z6k (w : World) (c bb g lc : Nat) (F Cn id : Int) (Q : List Zq) (hcl : (Z3 c 112 [.int .i64 F, .int .i64 Cn, .int .i64 id, .pointer (some ⟨bb, 0, none⟩), .slice (some ⟨g, 0, none⟩) Q.length lc]).ok w) (hrow : (Zc 119 79 (.slice (some ⟨g, 0, none⟩) Q.length lc) Q.length (Q.flatMap Zh)).ok w) (hlQ : Q.length ≤ 64) (k : Nat) (q : Zq) (hq : Q[k]? = some q) (hF : 1 ≤ F ∧ F ≤ 100) (hid : 0 ≤ id ∧ id ≤ 1000000) (hP : ListAt ZH 1 w (.slice q.pa q.P.length q.pc) q.P) (hlP : q.P.length ≤ 1000) (hwy : q.dn = true) (sq : Int) (hsq : sq = (k : Int) + 1) :
  Calls Tryz.prog 18 #[(.pointer (some ⟨c, 0, none⟩)), (.int .i64 (sq))] w fun e w' => e = .returned (.slice none 0 0) ∧ Upd [] w w' := by
 have H := Sat.start0 w
 have hkl : k < Q.length := (List.getElem?_eq_some_iff.1 hq).1
 refine Zg Tryz.func18 rfl 16 rfl (Nat.le_of_ble_eq_true rfl) ?_
 apply zsl
 refine wv 4 (.slice none 0 0) ?_
 apply Z0N
 refine wv 6 (pt c 0) ?_
 refine wv 7 (.int .i64 (sq)) ?_
 refine zwd fun Kq kq => ?_
 refine zdq 8 (Z1F w c bb g lc F Cn id Q (H.roCk 0 rfl hcl (fun _ _ h => h)) (H.roCk 0 rfl hrow (fun _ _ h => h)) hlQ k q hq sq (by omega)) H ?_
 intro w2 H3
 refine kq _ _ ?_
 clear kq Kq
 refine wv 5 (.pointer (some ⟨g, 0 + ((k : Int)).toNat * 79, none⟩)) ?_
 apply znt
 apply Zf
 apply zsl
 refine wv 9 (.pointer (some ⟨g, 0 + ((k : Int)).toNat * 79, none⟩)) ?_
 refine wv 10 (.bool false) ?_
 apply znt
 refine Z0y rfl ?_
 apply ZF
 apply ztn
 apply zsl
 refine wv 11 (pt c 0) ?_
 refine wv 12 (.pointer (some ⟨g, 0 + ((k : Int)).toNat * 79, none⟩)) ?_
 refine wv 13 (.pointer (some ⟨g, 0 + ((k : Int)).toNat * 79, none⟩)) ?_
 refine wv 14 (.agg ⟨((Z55 q.x.cl q.x.seq) ++ hc q.x.h ++ (Z56 q.x.len q.x.sb q.x.sm q.pa q.P.length q.pc) ++ hc q.no ++ ([(.map (some q.ms)), ((.pointer (q.cb.map fun z => ⟨z, 0, none⟩))), (.map (some q.ma)), (.map (some q.mr)), (.bool (q.op)), (.int .i64 (q.pl)), (.map (some q.mp)), (.bool (q.dn)), (ZD q.rp)] : List Value))⟩) ?_ (hr := Z0a (vs := ((Z55 q.x.cl q.x.seq) ++ hc q.x.h ++ (Z56 q.x.len q.x.sb q.x.sm q.pa q.P.length q.pc) ++ hc q.no ++ ([(.map (some q.ms)), ((.pointer (q.cb.map fun z => ⟨z, 0, none⟩))), (.map (some q.ma)), (.map (some q.mr)), (.bool (q.op)), (.int .i64 (q.pl)), (.map (some q.mp)), (.bool (q.dn)), (ZD q.rp)] : List Value))) rfl (by kernel_rfl) (by kernel_rfl) (Nat.le_of_ble_eq_true (by kernel_rfl)) (Z1d (H3.roCk 0 rfl hrow (fun _ _ h => h)) rfl ZB hq 0 (show 0 + ((k : Int)).toNat * 79 = k * 79 + 0 by omega) (by kernel_rfl) (by kernel_rfl)))
 refine zwd fun Kq kq => ?_
 refine zdq 15 (Z7e w2 c bb F Cn id (.slice (some ⟨g, 0, none⟩) Q.length lc) (H3.roCk 0 rfl hcl (fun _ _ h => h)) hF hid q (ListAt.now H3 0 rfl hP) hlP hwy) H3 ?_
 intro w6 H8
 refine kq _ _ ?_
 clear kq Kq
 refine wv 4 (.slice none 0 0) ?_
 apply znt
 apply Zz
 refine ze1 (.slice none 0 0) ?_
 exact ⟨rfl, H8.upd 0 rfl [] (fun _ h => h.elim)⟩
theorem Z7g (w : World) (c bb : Nat) (F Cn id : Int) (v : Value) (hcl : (Z3 c 112 [.int .i64 F, .int .i64 Cn, .int .i64 id, .pointer (some ⟨bb, 0, none⟩), v]).ok w) (hF : 1 ≤ F ∧ F ≤ 100) (hid : 0 ≤ id ∧ id ≤ 1000000) (q : Zq) (hP : ListAt ZH 1 w (.slice q.pa q.P.length q.pc) q.P) (hlP : q.P.length ≤ 1000) (hwy : q.op = true ∧ q.dn = false) :
  Calls Tryz.prog 30 #[(.pointer (some ⟨c, 0, none⟩)), (.agg ⟨(([(.int .i64 (q.x.cl)), (.int .i64 (q.x.seq))] : List Value) ++ hc q.x.h ++ ([(.int .i64 (q.x.len)), (.int .i64 (q.x.sb)), (.int .i64 (q.x.sm)), ((.slice q.pa q.P.length q.pc))] : List Value) ++ hc q.no ++ ([(.map (some q.ms)), ((.pointer (q.cb.map fun z => ⟨z, 0, none⟩))), (.map (some q.ma)), (.map (some q.mr)), (.bool (q.op)), (.int .i64 (q.pl)), (.map (some q.mp)), (.bool (q.dn)), (ZD q.rp)] : List Value))⟩)] w fun e w' => ∃ (da : Option Addr) (dc : Nat) (D : List OmR) (B : List Ck), e = .returned (.slice da D.length dc) ∧ (D.length : Int) = 3 * F + 1 ∧ (∀ j, j < D.length → Z6g (1000 + id) (⟨10, 0, 0, co0, co0, none, 0, [], q.pl, q.pa, q.pc, q.P, q.no⟩ : OmR) B j (D.getD j om0)) ∧ (ZL [Zc 82 295 (.slice da D.length dc) D.length (D.flatMap Z0d), Z0j B]).ok w' ∧ Upd [] w w' ∧ ∀ q_, (ZL [Zc 82 295 (.slice da D.length dc) D.length (D.flatMap Z0d), Z0j B]).fp q_ → w.heap.size ≤ q_ := by
 have H := Sat.start0 w
 refine Zg Tryz.func30 rfl 37 rfl (Nat.le_of_ble_eq_true rfl) ?_
 apply zsl
 refine zwd fun Kq kq => ?_
 refine zdb ((Z55 q.x.cl q.x.seq) ++ hc q.x.h ++ (Z56 q.x.len q.x.sb q.x.sm q.pa q.P.length q.pc) ++ hc q.no ++ ([(.map (some q.ms)), ((.pointer (q.cb.map fun z => ⟨z, 0, none⟩))), (.map (some q.ma)), (.map (some q.mr)), (.bool (q.op)), (.int .i64 (q.pl)), (.map (some q.mp)), (.bool (q.dn)), (ZD q.rp)] : List Value)) H ?_
 intro b2 w3 H4
 refine kq _ _ ?_
 clear kq Kq
 refine wv 4 (.slice none 0 0) ?_
 apply znt
 apply Zf
 apply ZA
 apply zsl
 refine wv 6 (pt b2 77) ?_
 refine zw1 7 (.bool (q.dn)) (H4.cell 1 rfl (by kernel_rfl)) ?_
 refine wv 5 (.bool (q.dn)) ?_
 apply znt
 have b5 : (q.dn) = false := by exact hwy.2
 refine Z1a _ b5 ?_
 apply zsl
 refine wv 9 (pt b2 74) ?_
 refine zw1 10 (.bool (q.op)) (H4.cell 1 rfl (by kernel_rfl)) ?_
 refine wv 8 (.bool (q.op)) ?_
 apply znt
 have b6 : (q.op) = true := by exact hwy.1
 refine Z1q _ b6 ?_
 apply zsl
 refine wv 11 (pt c 0) ?_
 refine wv 12 (pt b2 75) ?_
 refine zw1 13 (.int .i64 (q.pl)) (H4.cell 1 rfl (by kernel_rfl)) ?_
 refine wv 14 (pt b2 37) ?_
 refine zw1 15 ((.slice q.pa q.P.length q.pc)) (H4.cell 1 rfl (by kernel_rfl)) ?_
 refine wv 16 (pt b2 38) ?_
 refine zwN 17 (hc q.no) (H4.at 1 rfl) ?_
 refine wv 18 (.agg ⟨(([(.int .i64 (q.pl)), ((.slice q.pa q.P.length q.pc))] : List Value) ++ hc q.no)⟩) ?_
 refine wv 19 (.agg ⟨(([(.int .i64 (10)), (.int .i64 (0)), (.int .i64 (0)), (.int .i64 (0)), (.int .i64 (0))] : List Value) ++ hc Zx ++ ([(.int .i64 (0)), (.int .i64 (0)), (.int .i64 (0)), (.int .i64 (0)), (.int .i64 (0)), (.int .i64 (0))] : List Value) ++ hc Zx ++ ([(.int .u64 (0)), (.int .i64 (0)), (.int .i64 (0)), (.int .i64 (0)), (.int .i64 (0))] : List Value) ++ hc Zx ++ ([(.int .i64 (0)), (.int .i64 (0)), (.int .i64 (0)), (.slice none 0 0), (.int .i64 (0)), (.int .i64 (0)), (.int .i64 (0))] : List Value) ++ hc Zx ++ ([(.int .u64 (0)), (.int .i64 (0)), (.int .i64 (0)), (.int .i64 (0)), (.int .i64 (0)), (.int .u64 (0)), (.int .i64 (0)), (.int .i64 (0)), (.int .u64 (0)), (.slice none 0 0), (.int .i64 (0)), (.int .i64 (0)), (.int .i64 (0)), (.int .i64 (0)), (.int .i64 (0)), (.int .i64 (0)), (.int .i64 (0)), (.int .u64 (0)), (.slice none 0 0), (.slice none 0 0), (.slice none 0 0), (.int .i64 (0)), (.int .i64 (0)), (.int .i64 (0))] : List Value) ++ ([(.int .i64 (0)), (.int .i64 (0)), (.int .i64 (0))] : List Value) ++ hc Zx ++ ([(.int .i64 (0)), (.int .i64 (0)), (.int .i64 (0)), (.int .i64 (0)), (.int .i64 (0))] : List Value) ++ hc Zx ++ ([(.int .u64 (0)), (.int .i64 (q.pl)), ((.slice q.pa q.P.length q.pc))] : List Value) ++ hc q.no ++ ([(.int .i64 (0)), (.int .i64 (0)), (.int .i64 (0)), (.int .i64 (0)), (ZD ([] : List UInt8)), (.int .i64 (0)), (.int .i64 (0)), (.int .i64 (0)), (.int .u64 (0)), (.slice none 0 0), (.slice none 0 0), (.slice none 0 0), (.slice none 0 0)] : List Value))⟩) ?_
 refine zwd fun Kq kq => ?_
 refine zdc 20 (Z22 w3 c bb F Cn id v (H4.roCk 0 rfl hcl (fun _ _ h => h)) hF hid (⟨10, 0, 0, co0, co0, none, 0, [], q.pl, q.pa, q.pc, q.P, q.no⟩ : OmR) ListAt.nil (Nat.zero_le _) (ListAt.now H4 0 rfl hP) hlP) ?_
 rintro _ w8 ⟨a9, c10, D11, B12, rfl, n13, o14, k15, p16, q17⟩
 have H18 := H4.addU p16 k15 q17
 have H19 := H18.open 2 rfl
 refine ⟨_, rfl, ?_⟩
 refine kq _ _ ?_
 clear kq Kq
 refine wv 4 (.slice a9 D11.length c10) ?_
 apply znt
 apply Zz
 apply Z27
 apply ZY
 refine ze1 (.slice a9 D11.length c10) ?_
 exact ⟨a9, c10, D11, B12, rfl, n13, o14, H19.fn [2, 3], H19.upd 0 rfl [] (fun _ h => h.elim), H19.freshS 0 rfl (fun _ h => h) [2, 3] rfl rfl⟩
theorem Z6p (w : World) (c bb g lc : Nat) (F Cn id : Int) (Q : List Zq) (hcl : (Z3 c 112 [.int .i64 F, .int .i64 Cn, .int .i64 id, .pointer (some ⟨bb, 0, none⟩), .slice (some ⟨g, 0, none⟩) Q.length lc]).ok w) (hrow : (Zc 119 79 (.slice (some ⟨g, 0, none⟩) Q.length lc) Q.length (Q.flatMap Zh)).ok w) (hlQ : Q.length ≤ 64) (k : Nat) (q : Zq) (hq : Q[k]? = some q) (hF : 1 ≤ F ∧ F ≤ 100) (hid : 0 ≤ id ∧ id ≤ 1000000) (hP : ListAt ZH 1 w (.slice q.pa q.P.length q.pc) q.P) (hlP : q.P.length ≤ 1000) (hwy : q.op = true ∧ q.dn = false) (sq : Int) (hsq : sq = (k : Int) + 1) :
  Calls Tryz.prog 18 #[(.pointer (some ⟨c, 0, none⟩)), (.int .i64 (sq))] w fun e w' => ∃ (da : Option Addr) (dc : Nat) (D : List OmR) (B : List Ck), e = .returned (.slice da D.length dc) ∧ (D.length : Int) = 3 * F + 1 ∧ (∀ j, j < D.length → Z6g (1000 + id) (⟨10, 0, 0, co0, co0, none, 0, [], q.pl, q.pa, q.pc, q.P, q.no⟩ : OmR) B j (D.getD j om0)) ∧ (ZL [Zc 82 295 (.slice da D.length dc) D.length (D.flatMap Z0d), Z0j B]).ok w' ∧ Upd [] w w' ∧ ∀ q_, (ZL [Zc 82 295 (.slice da D.length dc) D.length (D.flatMap Z0d), Z0j B]).fp q_ → w.heap.size ≤ q_ := by
 have H := Sat.start0 w
 have hkl : k < Q.length := (List.getElem?_eq_some_iff.1 hq).1
 refine Zg Tryz.func18 rfl 16 rfl (Nat.le_of_ble_eq_true rfl) ?_
 apply zsl
 refine wv 4 (.slice none 0 0) ?_
 apply Z0N
 refine wv 6 (pt c 0) ?_
 refine wv 7 (.int .i64 (sq)) ?_
 refine zwd fun Kq kq => ?_
 refine zdq 8 (Z1F w c bb g lc F Cn id Q (H.roCk 0 rfl hcl (fun _ _ h => h)) (H.roCk 0 rfl hrow (fun _ _ h => h)) hlQ k q hq sq (by omega)) H ?_
 intro w2 H3
 refine kq _ _ ?_
 clear kq Kq
 refine wv 5 (.pointer (some ⟨g, 0 + ((k : Int)).toNat * 79, none⟩)) ?_
 apply znt
 apply Zf
 apply zsl
 refine wv 9 (.pointer (some ⟨g, 0 + ((k : Int)).toNat * 79, none⟩)) ?_
 refine wv 10 (.bool false) ?_
 apply znt
 refine Z0y rfl ?_
 apply ZF
 apply ztn
 apply zsl
 refine wv 11 (pt c 0) ?_
 refine wv 12 (.pointer (some ⟨g, 0 + ((k : Int)).toNat * 79, none⟩)) ?_
 refine wv 13 (.pointer (some ⟨g, 0 + ((k : Int)).toNat * 79, none⟩)) ?_
 refine wv 14 (.agg ⟨((Z55 q.x.cl q.x.seq) ++ hc q.x.h ++ (Z56 q.x.len q.x.sb q.x.sm q.pa q.P.length q.pc) ++ hc q.no ++ ([(.map (some q.ms)), ((.pointer (q.cb.map fun z => ⟨z, 0, none⟩))), (.map (some q.ma)), (.map (some q.mr)), (.bool (q.op)), (.int .i64 (q.pl)), (.map (some q.mp)), (.bool (q.dn)), (ZD q.rp)] : List Value))⟩) ?_ (hr := Z0a (vs := ((Z55 q.x.cl q.x.seq) ++ hc q.x.h ++ (Z56 q.x.len q.x.sb q.x.sm q.pa q.P.length q.pc) ++ hc q.no ++ ([(.map (some q.ms)), ((.pointer (q.cb.map fun z => ⟨z, 0, none⟩))), (.map (some q.ma)), (.map (some q.mr)), (.bool (q.op)), (.int .i64 (q.pl)), (.map (some q.mp)), (.bool (q.dn)), (ZD q.rp)] : List Value))) rfl (by kernel_rfl) (by kernel_rfl) (Nat.le_of_ble_eq_true (by kernel_rfl)) (Z1d (H3.roCk 0 rfl hrow (fun _ _ h => h)) rfl ZB hq 0 (show 0 + ((k : Int)).toNat * 79 = k * 79 + 0 by omega) (by kernel_rfl) (by kernel_rfl)))
 refine zwd fun Kq kq => ?_
 refine zdc 15 (Z7g w2 c bb F Cn id (.slice (some ⟨g, 0, none⟩) Q.length lc) (H3.roCk 0 rfl hcl (fun _ _ h => h)) hF hid q (ListAt.now H3 0 rfl hP) hlP hwy) ?_
 rintro _ w6 ⟨a7, c8, D9, B10, rfl, n11, o12, k13, p14, q15⟩
 have H16 := H3.addU p14 k13 q15
 have H17 := H16.open 1 rfl
 refine ⟨_, rfl, ?_⟩
 refine kq _ _ ?_
 clear kq Kq
 refine wv 4 (.slice a7 D9.length c8) ?_
 apply znt
 apply Zz
 refine ze1 (.slice a7 D9.length c8) ?_
 exact ⟨a7, c8, D9, B10, rfl, n11, o12, H17.fn [1, 2], H17.upd 0 rfl [] (fun _ h => h.elim), H17.freshS 0 rfl (fun _ h => h) [1, 2] rfl rfl⟩
abbrev Zbw (p0 : Z0) (p1 : Option Addr) (p2 : Nat) (p3 : Nat) (p4 : Z1e) (p5 : Nat) (p6 : Nat) (p7 : Nat) (p8 : Nat) (p9 : Value) : List Value := ([(.int .i64 p0.cl), (.int .i64 p0.seq)] : List Value) ++ hc p0.h ++ ([(.int .i64 p0.len), (.int .i64 p0.sb), (.int .i64 p0.sm), (.slice p1 p2 p3)] : List Value) ++ hc p4 ++ ([(.map (some p5)), (.pointer none), (.map (some p6)), (.map (some p7)), (.bool false), (.int .i64 (0)), (.map (some p8)), (.bool false), p9] : List Value)
theorem Z6j (w : World) (c bb g lc : Nat) (F Cn id : Int) (Q : List Zq) (hcl : (Z3 c 112 [.int .i64 F, .int .i64 Cn, .int .i64 id, .pointer (some ⟨bb, 0, none⟩), .slice (some ⟨g, 0, none⟩) Q.length lc]).ok w) (hrow : (Zc 119 79 (.slice (some ⟨g, 0, none⟩) Q.length lc) Q.length (Q.flatMap Zh)).ok w) (hlQ : Q.length ≤ 64) (k : Nat) (q : Zq) (hq : Q[k]? = some q) (hF : 1 ≤ F ∧ F ≤ 100) (hid : 0 ≤ id ∧ id ≤ 1000000) (hwy : q.cb = none ∧ q.op = false ∧ q.pl = 0 ∧ q.dn = false ∧ q.rp = []) (sq : Int) (hsq : sq = (k : Int) + 1) :
  Calls Tryz.prog 18 #[(.pointer (some ⟨c, 0, none⟩)), (.int .i64 (sq))] w fun e w' => ∃ (da : Option Addr) (dc : Nat) (D : List OmR) (B : List Ck), e = .returned (.slice da D.length dc) ∧ (D.length : Int) = 3 * F + 1 ∧ (∀ j, j < D.length → Z6g (1000 + id) (⟨1, 0, 0, q.x, co0, none, 0, [], 0, none, 0, [], Zx⟩ : OmR) B j (D.getD j om0)) ∧ (ZL [Zc 82 295 (.slice da D.length dc) D.length (D.flatMap Z0d), Z0j B]).ok w' ∧ Upd [] w w' ∧ ∀ q_, (ZL [Zc 82 295 (.slice da D.length dc) D.length (D.flatMap Z0d), Z0j B]).fp q_ → w.heap.size ≤ q_ := by
 obtain ⟨x, pa, pc, P, no, ms, cb, ma, mr, op, pl, mp, dn, rp⟩ := q
 obtain ⟨h1, h2, h3, h4, h5⟩ := hwy
 obtain rfl : cb = none := h1
 obtain rfl : op = false := h2
 obtain rfl : pl = 0 := h3
 obtain rfl : dn = false := h4
 obtain rfl : rp = [] := h5
 have H := Sat.start0 w
 have hkl : k < Q.length := (List.getElem?_eq_some_iff.1 hq).1
 refine Zg Tryz.func18 rfl 16 rfl (Nat.le_of_ble_eq_true rfl) ?_
 apply zsl
 refine wv 4 (.slice none 0 0) ?_
 apply Z0N
 refine wv 6 (pt c 0) ?_
 refine wv 7 (.int .i64 (sq)) ?_
 refine zwd fun Kq kq => ?_
 refine zdq 8 (Z1F w c bb g lc F Cn id Q (H.roCk 0 rfl hcl (fun _ _ h => h)) (H.roCk 0 rfl hrow (fun _ _ h => h)) hlQ k _ hq sq (by omega)) H ?_
 intro w2 H3
 refine kq _ _ ?_
 clear kq Kq
 refine wv 5 (.pointer (some ⟨g, 0 + ((k : Int)).toNat * 79, none⟩)) ?_
 apply znt
 apply Zf
 apply zsl
 refine wv 9 (.pointer (some ⟨g, 0 + ((k : Int)).toNat * 79, none⟩)) ?_
 refine wv 10 (.bool false) ?_
 apply znt
 refine Z0y rfl ?_
 apply ZF
 apply ztn
 apply zsl
 refine wv 11 (pt c 0) ?_
 refine wv 12 (.pointer (some ⟨g, 0 + ((k : Int)).toNat * 79, none⟩)) ?_
 refine wv 13 (.pointer (some ⟨g, 0 + ((k : Int)).toNat * 79, none⟩)) ?_
 refine wv 14 (.agg ⟨(Zbw x pa P.length pc no ms ma mr mp (ZD ([])))⟩) ?_ (hr := Z0a (vs := (Zbw x pa P.length pc no ms ma mr mp (ZD ([])))) rfl (by kernel_rfl) (by kernel_rfl) (Nat.le_of_ble_eq_true (by kernel_rfl)) (Z1d (H3.roCk 0 rfl hrow (fun _ _ h => h)) rfl ZB hq 0 (show 0 + ((k : Int)).toNat * 79 = k * 79 + 0 by omega) (by kernel_rfl) (by kernel_rfl)))
 refine zwd fun Kq kq => ?_
 refine zdc 15 (Z1I w2 c bb F Cn id (.slice (some ⟨g, 0, none⟩) Q.length lc) (H3.roCk 0 rfl hcl (fun _ _ h => h)) hF hid x pa pc P no ms ma mr mp) ?_
 rintro _ w6 ⟨a7, c8, D9, B10, rfl, n11, o12, k13, p14, q15⟩
 have H16 := H3.addU p14 k13 q15
 have H17 := H16.open 1 rfl
 refine ⟨_, rfl, ?_⟩
 refine kq _ _ ?_
 clear kq Kq
 refine wv 4 (.slice a7 D9.length c8) ?_
 apply znt
 apply Zz
 refine ze1 (.slice a7 D9.length c8) ?_
 exact ⟨a7, c8, D9, B10, rfl, n11, o12, H17.fn [1, 2], H17.upd 0 rfl [] (fun _ h => h.elim), H17.freshS 0 rfl (fun _ h => h) [1, 2] rfl rfl⟩
end Go.Proofs.YtgigjkjdmalmaaaGreat
