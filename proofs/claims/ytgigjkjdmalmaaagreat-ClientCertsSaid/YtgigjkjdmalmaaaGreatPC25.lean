/- WHAT IS PROVED: contracts and plain laws of ClK, ClY, Laid10, Clos10. Conditions: stated with each. -/
import Derived.Shelf.SlSortCmp.InsertionK
import Derived.Test.YtgigjkjdmalmaaaGreatPC11
import Derived.Test.YtgigjkjdmalmaaaGreatPC12
import Derived.Test.YtgigjkjdmalmaaaGreatPC13
import Derived.Test.YtgigjkjdmalmaaaGreatPC24
set_option maxHeartbeats 4000000
set_option maxRecDepth 100000
namespace Go.Proofs.YtgigjkjdmalmaaaGreat
open Go.RowKit
theorem Z4T (w : World) (c bb g lc : Nat) (F Cn id : Int) (Q : List Zq) (hcl : (Z3 c 112 [.int .i64 F, .int .i64 Cn, .int .i64 id, .pointer (some ⟨bb, 0, none⟩), .slice (some ⟨g, 0, none⟩) Q.length lc]).ok w) (hrow : (Ze 119 79 (.slice (some ⟨g, 0, none⟩) Q.length lc) Q.length (Q.flatMap Zm)).ok w) (hlQ : Q.length ≤ 64) (sq : Int) (hno : sq < 1 ∨ (Q.length : Int) < sq) :
  Calls Tryz.prog 41 #[(.pointer (some ⟨c, 0, none⟩)), (.int .i64 (sq))] w fun e w' => e = .returned (.pointer none) ∧ Upd [] w w' := by
 have H := Sat.start0 w
 refine Zv Tryz.func41 rfl 23 rfl (Nat.le_of_ble_eq_true rfl) ?_
 refine Zh ?_
 refine Zs ?_
 refine Z5 (Z2 rfl) (d := 4) (v := (.pointer none)) rfl (by kernel_rfl) ?_
 refine Zr ?_
 refine Z7 ?_
 refine Zh ?_
 refine Zh ?_
 refine Zs ?_
 refine Z5 (Z2 rfl) (d := 5) (v := (.int .i64 (sq))) rfl (by kernel_rfl) ?_
 refine Z5 (Z2 rfl) (d := 6) (v := (.bool (decide (sq < 1)))) rfl (by kernel_rfl) ?_
 refine Z5 (Z2 rfl) (d := 7) (v := (.bool (decide (sq < 1)))) rfl (by kernel_rfl) ?_
 refine (Z00 (decide (sq < 1))).elim (fun b1 => ?_) (fun b1 => ?_)
 ·have g2 := of_decide_eq_true b1
  refine Z05 7 (.bool true) (congrArg Value.bool b1) ?_
  have g3 := of_decide_eq_true b1
  refine ZI (Zx 2 7 false rfl (by kernel_rfl) rfl (by kernel_rfl)) rfl ?_
  refine ZI (Zx 2 7 false rfl (by kernel_rfl) rfl (by kernel_rfl)) rfl ?_
  refine ZI (Zx 2 7 false rfl (by kernel_rfl) rfl (by kernel_rfl)) rfl ?_
  refine ZI (Zx 2 7 false rfl (by kernel_rfl) rfl (by kernel_rfl)) rfl ?_
  refine ZI (Zx 2 7 false rfl (by kernel_rfl) rfl (by kernel_rfl)) rfl ?_
  refine ZI (Zx 2 7 false rfl (by kernel_rfl) rfl (by kernel_rfl)) rfl ?_
  refine ZI (Zx 2 7 false rfl (by kernel_rfl) rfl (by kernel_rfl)) rfl ?_
  refine Z5 (Z2 rfl) (d := 15) (v := (.bool true)) rfl (by kernel_rfl) ?_
  refine Zr ?_
  refine Z7 ?_
  refine Z1j rfl ?_
  refine Zh ?_
  refine Zs ?_
  refine Z5 (Z2 rfl) (d := 4) (v := (.pointer none)) rfl (by kernel_rfl) ?_
  refine Zr ?_
  refine Z7 ?_
  refine ZU ?_
  refine Z0Y ?_
  refine Z0T rfl (ZK (v := (.pointer none)) rfl) ?_
  exact ⟨rfl, H.upd 0 rfl [] (fun _ h => h.elim)⟩
 ·have g4 := of_decide_eq_false b1
  refine Z05 7 (.bool false) (congrArg Value.bool b1) ?_
  have g5 := of_decide_eq_false b1
  refine Z5 (Zw 2 7 false rfl (by kernel_rfl) rfl (by kernel_rfl)) (d := 8) (v := (.int .i64 (sq))) rfl (by kernel_rfl) ?_
  refine Z5 (Zw 2 7 false rfl (by kernel_rfl) rfl (by kernel_rfl)) (d := 9) (v := (.pointer (some ⟨c, 0, none⟩))) rfl (by kernel_rfl) ?_
  refine Z5 (Zw 2 7 false rfl (by kernel_rfl) rfl (by kernel_rfl)) (d := 10) (v := (.pointer (some ⟨c, 0, none⟩))) rfl (by kernel_rfl) ?_
  refine Z5 (Zw 2 7 false rfl (by kernel_rfl) rfl (by kernel_rfl)) (d := 11) (v := (.pointer (some ⟨c, 4, none⟩))) rfl (by kernel_rfl) ?_
  refine Z5 (Zw 2 7 false rfl (by kernel_rfl) rfl (by kernel_rfl)) (d := 12) (v := (.slice (some ⟨g, 0, none⟩) Q.length lc)) rfl (Zi rfl (by kernel_rfl) (H.roCell 0 rfl hcl (fun h => h) rfl)) ?_
  refine Z5 (Zw 2 7 false rfl (by kernel_rfl) rfl (by kernel_rfl)) (d := 13) (v := (.int .i64 ((Q.length : Int)))) rfl (by kernel_rfl) ?_
  refine Z5 (Zw 2 7 false rfl (by kernel_rfl) rfl (by kernel_rfl)) (d := 14) (v := (.bool (decide (sq > (Q.length : Int))))) rfl (by kernel_rfl) ?_
  refine Z5 (Z2 rfl) (d := 15) (v := (.bool (decide (sq > (Q.length : Int))))) rfl (by kernel_rfl) ?_
  refine Zr ?_
  refine Z7 ?_
  have b6 : (decide (sq > (Q.length : Int))) = true := by exact decide_eq_true (by omega)
  refine Zy 15 (.bool true) (congrArg Value.bool b6) ?_
  have g7 := of_decide_eq_true b6
  refine Z1j rfl ?_
  refine Zh ?_
  refine Zs ?_
  refine Z5 (Z2 rfl) (d := 4) (v := (.pointer none)) rfl (by kernel_rfl) ?_
  refine Zr ?_
  refine Z7 ?_
  refine ZU ?_
  refine Z0Y ?_
  refine Z0T rfl (ZK (v := (.pointer none)) rfl) ?_
  exact ⟨rfl, H.upd 0 rfl [] (fun _ h => h.elim)⟩
theorem Z1s (w : World) (c bb g lc : Nat) (F Cn id : Int) (Q : List Zq) (hcl : (Z3 c 112 [.int .i64 F, .int .i64 Cn, .int .i64 id, .pointer (some ⟨bb, 0, none⟩), .slice (some ⟨g, 0, none⟩) Q.length lc]).ok w) (hrow : (Ze 119 79 (.slice (some ⟨g, 0, none⟩) Q.length lc) Q.length (Q.flatMap Zm)).ok w) (hlQ : Q.length ≤ 64) (sq : Int) (hno : sq < 1 ∨ (Q.length : Int) < sq) :
  Calls Tryz.prog 18 #[(.pointer (some ⟨c, 0, none⟩)), (.int .i64 (sq))] w fun e w' => e = .returned (.slice none 0 0) ∧ Upd [] w w' := by
 have H := Sat.start0 w
 refine Zv Tryz.func18 rfl 16 rfl (Nat.le_of_ble_eq_true rfl) ?_
 refine Zh ?_
 refine Zs ?_
 refine Z5 (Z2 rfl) (d := 4) (v := (.slice none 0 0)) rfl (by kernel_rfl) ?_
 refine Zr ?_
 refine Z7 ?_
 refine Zh ?_
 refine Zs ?_
 refine Z5 (Z2 rfl) (d := 6) (v := (.pointer (some ⟨c, 0, none⟩))) rfl (by kernel_rfl) ?_
 refine Z5 (Z2 rfl) (d := 7) (v := (.int .i64 (sq))) rfl (by kernel_rfl) ?_
 refine ZQ (Z2 rfl) (fun K1 hK1 => ?_)
 refine ZJ (d := 8) rfl (by kernel_rfl) (Z4T w c bb g lc F Cn id Q (H.roCk 0 rfl hcl (fun _ _ h => h)) (H.roCk 0 rfl hrow (fun _ _ h => h)) hlQ sq hno) ?_
 rintro _ w2 ⟨rfl, u4⟩
 have H3 := H.keepU u4
 refine ⟨_, rfl, ?_⟩
 refine hK1 _ _ ?_
 clear hK1 K1
 refine Z5 (Z2 rfl) (d := 5) (v := (.pointer none)) rfl (by kernel_rfl) ?_
 refine Zr ?_
 refine Z7 ?_
 refine Zh ?_
 refine Zh ?_
 refine Zs ?_
 refine Z5 (Z2 rfl) (d := 9) (v := (.pointer none)) rfl (by kernel_rfl) ?_
 refine Z5 (Z2 rfl) (d := 10) (v := (.bool true)) rfl (by kernel_rfl) ?_
 refine Zr ?_
 refine Z7 ?_
 refine Z1j rfl ?_
 refine Zh ?_
 refine Zs ?_
 refine Z5 (Z2 rfl) (d := 4) (v := (.slice none 0 0)) rfl (by kernel_rfl) ?_
 refine Zr ?_
 refine Z7 ?_
 refine ZU ?_
 refine Z0Y ?_
 refine Z0T rfl (ZK (v := (.slice none 0 0)) rfl) ?_
 exact ⟨rfl, H3.upd 0 rfl [] (fun _ h => h.elim)⟩
theorem Z4U (w : World) (c bb : Nat) (F Cn id : Int) (v : Value) (hcl : (Z3 c 112 [.int .i64 F, .int .i64 Cn, .int .i64 id, .pointer (some ⟨bb, 0, none⟩), v]).ok w) (hF : 1 ≤ F ∧ F ≤ 100) (hid : 0 ≤ id ∧ id ≤ 1000000) (x : Z0) (pa : Option Addr) (pc : Nat) (P : List UInt8) (no : Z1H) (ms ma mr mp : Nat) (pl : Int) (rp : List UInt8) (z : Nat) (sa : Option Addr) (sc : Nat) (S : List Zl) (hz : (Z3 z 57 (Z1I x ++ [.slice sa S.length sc])).ok w) (hS : ListAt ZT 38 w (.slice sa S.length sc) S) (hlS : S.length ≤ 1000) :
  Calls Tryz.prog 30 #[(.pointer (some ⟨c, 0, none⟩)), (.agg ⟨(([(.int .i64 (x.cl)), (.int .i64 (x.seq))] : List Value) ++ hc x.h ++ ([(.int .i64 (x.len)), (.int .i64 (x.sb)), (.int .i64 (x.sm)), ((.slice pa P.length pc))] : List Value) ++ hc no ++ ([(.map (some ms)), (.pointer (some ⟨z, 0, none⟩)), (.map (some ma)), (.map (some mr)), (.bool false), (.int .i64 (pl)), (.map (some mp)), (.bool false), (ZX rp)] : List Value))⟩)] w fun e w' => ∃ (da : Option Addr) (dc : Nat) (D : List OmR) (B : List Ck), e = .returned (.slice da D.length dc) ∧ (D.length : Int) = 3 * F + 1 ∧ (∀ j, j < D.length → Z5B (1000 + id) (⟨3, 0, 0, co0, x, sa, sc, S, 0, none, 0, [], Zb⟩ : OmR) B j (D.getD j om0)) ∧ (ZP [Ze 82 295 (.slice da D.length dc) D.length (D.flatMap Z0b), Z0u B]).ok w' ∧ Upd [] w w' ∧ ∀ q_, (ZP [Ze 82 295 (.slice da D.length dc) D.length (D.flatMap Z0b), Z0u B]).fp q_ → w.heap.size ≤ q_ := by
 have H := Sat.start0 w
 refine Zv Tryz.func30 rfl 37 rfl (Nat.le_of_ble_eq_true rfl) ?_
 refine Zh ?_
 refine Zs ?_
 refine ZQ (Z2 rfl) (fun K1 hK1 => ?_)
 refine Z0N (vs := (([(.int .i64 (x.cl)), (.int .i64 (x.seq))] : List Value) ++ hc x.h ++ ([(.int .i64 (x.len)), (.int .i64 (x.sb)), (.int .i64 (x.sm)), ((.slice pa P.length pc))] : List Value) ++ hc no ++ ([(.map (some ms)), (.pointer (some ⟨z, 0, none⟩)), (.map (some ma)), (.map (some mr)), (.bool false), (.int .i64 (pl)), (.map (some mp)), (.bool false), (ZX rp)] : List Value))) rfl H rfl rfl ?_
 intro b2 w3 (H4 : Sat w [Za w (fun _ => False), Z3 b2 119 (([(.int .i64 (x.cl)), (.int .i64 (x.seq))] : List Value) ++ hc x.h ++ ([(.int .i64 (x.len)), (.int .i64 (x.sb)), (.int .i64 (x.sm)), ((.slice pa P.length pc))] : List Value) ++ hc no ++ ([(.map (some ms)), (.pointer (some ⟨z, 0, none⟩)), (.map (some ma)), (.map (some mr)), (.bool false), (.int .i64 (pl)), (.map (some mp)), (.bool false), (ZX rp)] : List Value))] w3)
 refine hK1 _ _ ?_
 clear hK1 K1
 refine Z5 (Z2 rfl) (d := 4) (v := (.slice none 0 0)) rfl (by kernel_rfl) ?_
 refine Zr ?_
 refine Z7 ?_
 refine Zh ?_
 refine ZM ?_
 refine Zh ?_
 refine Zs ?_
 refine Z5 (Z2 rfl) (d := 6) (v := (.pointer (some ⟨b2, 77, none⟩))) rfl (by kernel_rfl) ?_
 refine Z5 (Z2 rfl) (d := 7) (v := (.bool false)) rfl (Zi rfl (by kernel_rfl) (H4.cell 1 rfl (by kernel_rfl))) ?_
 refine Z5 (Z2 rfl) (d := 5) (v := (.bool false)) rfl (by kernel_rfl) ?_
 refine Zr ?_
 refine Z7 ?_
 refine Z0o rfl ?_
 refine Zh ?_
 refine Zs ?_
 refine Z5 (Z2 rfl) (d := 9) (v := (.pointer (some ⟨b2, 74, none⟩))) rfl (by kernel_rfl) ?_
 refine Z5 (Z2 rfl) (d := 10) (v := (.bool false)) rfl (Zi rfl (by kernel_rfl) (H4.cell 1 rfl (by kernel_rfl))) ?_
 refine Z5 (Z2 rfl) (d := 8) (v := (.bool false)) rfl (by kernel_rfl) ?_
 refine Zr ?_
 refine Z7 ?_
 refine Z0o rfl ?_
 refine Zh ?_
 refine Zs ?_
 refine Z5 (Z2 rfl) (d := 22) (v := (.pointer (some ⟨b2, 71, none⟩))) rfl (by kernel_rfl) ?_
 refine Z5 (Z2 rfl) (d := 23) (v := (.pointer (some ⟨z, 0, none⟩))) rfl (Zi rfl (by kernel_rfl) (H4.cell 1 rfl (by kernel_rfl))) ?_
 refine Z5 (Z2 rfl) (d := 24) (v := (.bool true)) rfl (by kernel_rfl) ?_
 refine Z5 (Z2 rfl) (d := 21) (v := (.bool true)) rfl (by kernel_rfl) ?_
 refine Zr ?_
 refine Z7 ?_
 refine Z1j rfl ?_
 refine Zh ?_
 refine Zs ?_
 refine Z5 (Z2 rfl) (d := 25) (v := (.pointer (some ⟨c, 0, none⟩))) rfl (by kernel_rfl) ?_
 refine Z5 (Z2 rfl) (d := 26) (v := (.pointer (some ⟨b2, 71, none⟩))) rfl (by kernel_rfl) ?_
 refine Z5 (Z2 rfl) (d := 27) (v := (.pointer (some ⟨z, 0, none⟩))) rfl (Zi rfl (by kernel_rfl) (H4.cell 1 rfl (by kernel_rfl))) ?_
 refine Z5 (Z2 rfl) (d := 28) (v := (.pointer (some ⟨z, 0, none⟩))) rfl (by kernel_rfl) ?_
 refine Z5 (Z2 rfl) (d := 29) (v := (.agg ⟨(([(.int .i64 (x.cl)), (.int .i64 (x.seq))] : List Value) ++ hc x.h ++ ([(.int .i64 (x.len)), (.int .i64 (x.sb)), (.int .i64 (x.sm)), (.slice sa S.length sc)] : List Value))⟩)) rfl (ZE (vs := (([(.int .i64 (x.cl)), (.int .i64 (x.seq))] : List Value) ++ hc x.h ++ ([(.int .i64 (x.len)), (.int .i64 (x.sb)), (.int .i64 (x.sm)), (.slice sa S.length sc)] : List Value))) rfl (by kernel_rfl) (by kernel_rfl) (by exact Nat.le_of_ble_eq_true (by kernel_rfl)) (H4.roCells 0 rfl hz (fun h => h)) (by kernel_rfl)) ?_
 refine Z5 (Z2 rfl) (d := 30) (v := (.agg ⟨(([(.int .i64 (3)), (.int .i64 (0)), (.int .i64 (0)), (.int .i64 (0)), (.int .i64 (0))] : List Value) ++ hc Zb ++ ([(.int .i64 (0)), (.int .i64 (0)), (.int .i64 (0)), (.int .i64 (0)), (.int .i64 (0)), (.int .i64 (0))] : List Value) ++ hc Zb ++ ([(.int .u64 (0)), (.int .i64 (0)), (.int .i64 (0)), (.int .i64 (x.cl)), (.int .i64 (x.seq))] : List Value) ++ hc x.h ++ ([(.int .i64 (x.len)), (.int .i64 (x.sb)), (.int .i64 (x.sm)), (.slice sa S.length sc), (.int .i64 (0)), (.int .i64 (0)), (.int .i64 (0))] : List Value) ++ hc Zb ++ ([(.int .u64 (0)), (.int .i64 (0)), (.int .i64 (0)), (.int .i64 (0)), (.int .i64 (0)), (.int .u64 (0)), (.int .i64 (0)), (.int .i64 (0)), (.int .u64 (0)), (.slice none 0 0), (.int .i64 (0)), (.int .i64 (0)), (.int .i64 (0)), (.int .i64 (0)), (.int .i64 (0)), (.int .i64 (0)), (.int .i64 (0)), (.int .u64 (0)), (.slice none 0 0), (.slice none 0 0), (.slice none 0 0), (.int .i64 (0)), (.int .i64 (0)), (.int .i64 (0))] : List Value) ++ ([(.int .i64 (0)), (.int .i64 (0)), (.int .i64 (0))] : List Value) ++ hc Zb ++ ([(.int .i64 (0)), (.int .i64 (0)), (.int .i64 (0)), (.int .i64 (0)), (.int .i64 (0))] : List Value) ++ hc Zb ++ ([(.int .u64 (0)), (.int .i64 (0)), (.slice none 0 0)] : List Value) ++ hc Zb ++ ([(.int .i64 (0)), (.int .i64 (0)), (.int .i64 (0)), (.int .i64 (0)), (ZX ([] : List UInt8)), (.int .i64 (0)), (.int .i64 (0)), (.int .i64 (0)), (.int .u64 (0)), (.slice none 0 0), (.slice none 0 0), (.slice none 0 0), (.slice none 0 0)] : List Value))⟩)) rfl (by kernel_rfl) ?_
 refine ZQ (Z2 rfl) (fun K5 hK5 => ?_)
 refine ZJ (d := 31) rfl (by kernel_rfl) (Z2d w3 c bb F Cn id v (H4.roCk 0 rfl hcl (fun _ _ h => h)) hF hid (⟨3, 0, 0, co0, x, sa, sc, S, 0, none, 0, [], Zb⟩ : OmR) (ListAt.now H4 0 rfl hS) hlS ListAt.nil (Nat.zero_le _)) ?_
 rintro _ w6 ⟨a7, c8, D9, B10, rfl, n11, o12, k13, p14, q15⟩
 have H16 : Sat w [Za w (fun _ => False), Z3 b2 119 (([(.int .i64 (x.cl)), (.int .i64 (x.seq))] : List Value) ++ hc x.h ++ ([(.int .i64 (x.len)), (.int .i64 (x.sb)), (.int .i64 (x.sm)), ((.slice pa P.length pc))] : List Value) ++ hc no ++ ([(.map (some ms)), (.pointer (some ⟨z, 0, none⟩)), (.map (some ma)), (.map (some mr)), (.bool false), (.int .i64 (pl)), (.map (some mp)), (.bool false), (ZX rp)] : List Value)), ZP [Ze 82 295 (.slice a7 D9.length c8) D9.length (D9.flatMap Z0b), Z0u B10]] w6 := H4.addU p14 k13 q15
 have H17 : Sat w [Za w (fun _ => False), Z3 b2 119 (([(.int .i64 (x.cl)), (.int .i64 (x.seq))] : List Value) ++ hc x.h ++ ([(.int .i64 (x.len)), (.int .i64 (x.sb)), (.int .i64 (x.sm)), ((.slice pa P.length pc))] : List Value) ++ hc no ++ ([(.map (some ms)), (.pointer (some ⟨z, 0, none⟩)), (.map (some ma)), (.map (some mr)), (.bool false), (.int .i64 (pl)), (.map (some mp)), (.bool false), (ZX rp)] : List Value)), Ze 82 295 (.slice a7 D9.length c8) D9.length (D9.flatMap Z0b), Z0u B10] w6 := H16.open 2 rfl
 refine ⟨_, rfl, ?_⟩
 refine hK5 _ _ ?_
 clear hK5 K5
 refine Z5 (Z2 rfl) (d := 4) (v := (.slice a7 D9.length c8)) rfl (by kernel_rfl) ?_
 refine Zr ?_
 refine Z7 ?_
 refine ZU ?_
 refine Z3W ?_
 refine Z0Y ?_
 refine Z0T rfl (ZK (v := (.slice a7 D9.length c8)) rfl) ?_
 exact ⟨a7, c8, D9, B10, rfl, n11, o12, H17.fin [2, 3] (by decide) rfl, H17.upd 0 rfl [] (fun _ h => h.elim), H17.freshS 0 rfl (fun _ h => h) [2, 3] rfl rfl⟩
theorem Z4k (w : World) (c bb g lc : Nat) (F Cn id : Int) (Q : List Zq) (hcl : (Z3 c 112 [.int .i64 F, .int .i64 Cn, .int .i64 id, .pointer (some ⟨bb, 0, none⟩), .slice (some ⟨g, 0, none⟩) Q.length lc]).ok w) (hrow : (Ze 119 79 (.slice (some ⟨g, 0, none⟩) Q.length lc) Q.length (Q.flatMap Zm)).ok w) (hlQ : Q.length ≤ 64) (k : Nat) (q : Zq) (hq : Q[k]? = some q) (hF : 1 ≤ F ∧ F ≤ 100) (hid : 0 ≤ id ∧ id ≤ 1000000) (z : Nat) (sa : Option Addr) (sc : Nat) (S : List Zl) (hz : (Z3 z 57 (Z1I q.x ++ [.slice sa S.length sc])).ok w) (hS : ListAt ZT 38 w (.slice sa S.length sc) S) (hlS : S.length ≤ 1000) (hwy : q.cb = some z ∧ q.op = false ∧ q.dn = false) (sq : Int) (hsq : sq = (k : Int) + 1) :
  Calls Tryz.prog 18 #[(.pointer (some ⟨c, 0, none⟩)), (.int .i64 (sq))] w fun e w' => ∃ (da : Option Addr) (dc : Nat) (D : List OmR) (B : List Ck), e = .returned (.slice da D.length dc) ∧ (D.length : Int) = 3 * F + 1 ∧ (∀ j, j < D.length → Z5B (1000 + id) (⟨3, 0, 0, co0, q.x, sa, sc, S, 0, none, 0, [], Zb⟩ : OmR) B j (D.getD j om0)) ∧ (ZP [Ze 82 295 (.slice da D.length dc) D.length (D.flatMap Z0b), Z0u B]).ok w' ∧ Upd [] w w' ∧ ∀ q_, (ZP [Ze 82 295 (.slice da D.length dc) D.length (D.flatMap Z0b), Z0u B]).fp q_ → w.heap.size ≤ q_ := by
 obtain ⟨x, pa, pc, P, no, ms, cb, ma, mr, op, pl, mp, dn, rp⟩ := q
 obtain ⟨h1, h2, h3⟩ := hwy
 obtain rfl : cb = some z := h1
 obtain rfl : op = false := h2
 obtain rfl : dn = false := h3
 have H := Sat.start0 w
 have hkl : k < Q.length := (List.getElem?_eq_some_iff.1 hq).1
 refine Zv Tryz.func18 rfl 16 rfl (Nat.le_of_ble_eq_true rfl) ?_
 refine Zh ?_
 refine Zs ?_
 refine Z5 (Z2 rfl) (d := 4) (v := (.slice none 0 0)) rfl (by kernel_rfl) ?_
 refine Zr ?_
 refine Z7 ?_
 refine Zh ?_
 refine Zs ?_
 refine Z5 (Z2 rfl) (d := 6) (v := (.pointer (some ⟨c, 0, none⟩))) rfl (by kernel_rfl) ?_
 refine Z5 (Z2 rfl) (d := 7) (v := (.int .i64 (sq))) rfl (by kernel_rfl) ?_
 refine ZQ (Z2 rfl) (fun K1 hK1 => ?_)
 refine ZJ (d := 8) rfl (by kernel_rfl) (Z2x w c bb g lc F Cn id Q (H.roCk 0 rfl hcl (fun _ _ h => h)) (H.roCk 0 rfl hrow (fun _ _ h => h)) hlQ k _ hq sq (by omega)) ?_
 rintro _ w2 ⟨rfl, u4⟩
 have H3 := H.keepU u4
 refine ⟨_, rfl, ?_⟩
 refine hK1 _ _ ?_
 clear hK1 K1
 refine Z5 (Z2 rfl) (d := 5) (v := (.pointer (some ⟨g, 0 + ((k : Int)).toNat * 79, none⟩))) rfl (by kernel_rfl) ?_
 refine Zr ?_
 refine Z7 ?_
 refine Zh ?_
 refine Zh ?_
 refine Zs ?_
 refine Z5 (Z2 rfl) (d := 9) (v := (.pointer (some ⟨g, 0 + ((k : Int)).toNat * 79, none⟩))) rfl (by kernel_rfl) ?_
 refine Z5 (Z2 rfl) (d := 10) (v := (.bool false)) rfl (by kernel_rfl) ?_
 refine Zr ?_
 refine Z7 ?_
 refine Z0o rfl ?_
 refine ZW ?_
 refine Z7 ?_
 refine Zh ?_
 refine Zs ?_
 refine Z5 (Z2 rfl) (d := 11) (v := (.pointer (some ⟨c, 0, none⟩))) rfl (by kernel_rfl) ?_
 refine Z5 (Z2 rfl) (d := 12) (v := (.pointer (some ⟨g, 0 + ((k : Int)).toNat * 79, none⟩))) rfl (by kernel_rfl) ?_
 refine Z5 (Z2 rfl) (d := 13) (v := (.pointer (some ⟨g, 0 + ((k : Int)).toNat * 79, none⟩))) rfl (by kernel_rfl) ?_
 refine Z5 (Z2 rfl) (d := 14) (v := (.agg ⟨(([(.int .i64 (x.cl)), (.int .i64 (x.seq))] : List Value) ++ hc x.h ++ ([(.int .i64 (x.len)), (.int .i64 (x.sb)), (.int .i64 (x.sm)), ((.slice pa P.length pc))] : List Value) ++ hc no ++ ([(.map (some ms)), (.pointer (some ⟨z, 0, none⟩)), (.map (some ma)), (.map (some mr)), (.bool false), (.int .i64 (pl)), (.map (some mp)), (.bool false), (ZX rp)] : List Value))⟩)) rfl (Z0P (vs := (([(.int .i64 (x.cl)), (.int .i64 (x.seq))] : List Value) ++ hc x.h ++ ([(.int .i64 (x.len)), (.int .i64 (x.sb)), (.int .i64 (x.sm)), ((.slice pa P.length pc))] : List Value) ++ hc no ++ ([(.map (some ms)), (.pointer (some ⟨z, 0, none⟩)), (.map (some ma)), (.map (some mr)), (.bool false), (.int .i64 (pl)), (.map (some mp)), (.bool false), (ZX rp)] : List Value))) rfl (by kernel_rfl) (by kernel_rfl) (Nat.le_of_ble_eq_true (by kernel_rfl)) (Z1u (H3.roCk 0 rfl hrow (fun _ _ h => h)) rfl Z0r hq 0 (show 0 + ((k : Int)).toNat * 79 = k * 79 + 0 by omega) (by kernel_rfl) (by kernel_rfl))) ?_
 refine ZQ (Z2 rfl) (fun K5 hK5 => ?_)
 refine ZJ (d := 15) rfl (by kernel_rfl) (Z4U w2 c bb F Cn id (.slice (some ⟨g, 0, none⟩) Q.length lc) (H3.roCk 0 rfl hcl (fun _ _ h => h)) hF hid x pa pc P no ms ma mr mp pl rp z sa sc S (H3.roCk 0 rfl hz (fun _ _ h => h)) (ListAt.now H3 0 rfl hS) hlS) ?_
 rintro _ w6 ⟨a7, c8, D9, B10, rfl, n11, o12, k13, p14, q15⟩
 have H16 : Sat w [Za w (fun _ => False), ZP [Ze 82 295 (.slice a7 D9.length c8) D9.length (D9.flatMap Z0b), Z0u B10]] w6 := H3.addU p14 k13 q15
 have H17 : Sat w [Za w (fun _ => False), Ze 82 295 (.slice a7 D9.length c8) D9.length (D9.flatMap Z0b), Z0u B10] w6 := H16.open 1 rfl
 refine ⟨_, rfl, ?_⟩
 refine hK5 _ _ ?_
 clear hK5 K5
 refine Z5 (Z2 rfl) (d := 4) (v := (.slice a7 D9.length c8)) rfl (by kernel_rfl) ?_
 refine Zr ?_
 refine Z7 ?_
 refine ZU ?_
 refine Z0T rfl (ZK (v := (.slice a7 D9.length c8)) rfl) ?_
 exact ⟨a7, c8, D9, B10, rfl, n11, o12, H17.fin [1, 2] (by decide) rfl, H17.upd 0 rfl [] (fun _ h => h.elim), H17.freshS 0 rfl (fun _ h => h) [1, 2] rfl rfl⟩
theorem Z4j (w : World) (c bb g lc : Nat) (F Cn id : Int) (Q : List Zq) (hcl : (Z3 c 112 [.int .i64 F, .int .i64 Cn, .int .i64 id, .pointer (some ⟨bb, 0, none⟩), .slice (some ⟨g, 0, none⟩) Q.length lc]).ok w) (hrow : (Ze 119 79 (.slice (some ⟨g, 0, none⟩) Q.length lc) Q.length (Q.flatMap Zm)).ok w) (hlQ : Q.length ≤ 64) (k : Nat) (q : Zq) (hq : Q[k]? = some q) (hF : 1 ≤ F ∧ F ≤ 100) (hid : 0 ≤ id ∧ id ≤ 1000000) (hwy : q.cb = none ∧ q.op = false ∧ q.pl = 0 ∧ q.dn = false ∧ q.rp = []) (sq : Int) (hsq : sq = (k : Int) + 1) :
  Calls Tryz.prog 18 #[(.pointer (some ⟨c, 0, none⟩)), (.int .i64 (sq))] w fun e w' => ∃ (da : Option Addr) (dc : Nat) (D : List OmR) (B : List Ck), e = .returned (.slice da D.length dc) ∧ (D.length : Int) = 3 * F + 1 ∧ (∀ j, j < D.length → Z5B (1000 + id) (⟨1, 0, 0, q.x, co0, none, 0, [], 0, none, 0, [], Zb⟩ : OmR) B j (D.getD j om0)) ∧ (ZP [Ze 82 295 (.slice da D.length dc) D.length (D.flatMap Z0b), Z0u B]).ok w' ∧ Upd [] w w' ∧ ∀ q_, (ZP [Ze 82 295 (.slice da D.length dc) D.length (D.flatMap Z0b), Z0u B]).fp q_ → w.heap.size ≤ q_ := by
 obtain ⟨x, pa, pc, P, no, ms, cb, ma, mr, op, pl, mp, dn, rp⟩ := q
 obtain ⟨h1, h2, h3, h4, h5⟩ := hwy
 obtain rfl : cb = none := h1
 obtain rfl : op = false := h2
 obtain rfl : pl = 0 := h3
 obtain rfl : dn = false := h4
 obtain rfl : rp = [] := h5
 have H := Sat.start0 w
 have hkl : k < Q.length := (List.getElem?_eq_some_iff.1 hq).1
 refine Zv Tryz.func18 rfl 16 rfl (Nat.le_of_ble_eq_true rfl) ?_
 refine Zh ?_
 refine Zs ?_
 refine Z5 (Z2 rfl) (d := 4) (v := (.slice none 0 0)) rfl (by kernel_rfl) ?_
 refine Zr ?_
 refine Z7 ?_
 refine Zh ?_
 refine Zs ?_
 refine Z5 (Z2 rfl) (d := 6) (v := (.pointer (some ⟨c, 0, none⟩))) rfl (by kernel_rfl) ?_
 refine Z5 (Z2 rfl) (d := 7) (v := (.int .i64 (sq))) rfl (by kernel_rfl) ?_
 refine ZQ (Z2 rfl) (fun K1 hK1 => ?_)
 refine ZJ (d := 8) rfl (by kernel_rfl) (Z2x w c bb g lc F Cn id Q (H.roCk 0 rfl hcl (fun _ _ h => h)) (H.roCk 0 rfl hrow (fun _ _ h => h)) hlQ k _ hq sq (by omega)) ?_
 rintro _ w2 ⟨rfl, u4⟩
 have H3 := H.keepU u4
 refine ⟨_, rfl, ?_⟩
 refine hK1 _ _ ?_
 clear hK1 K1
 refine Z5 (Z2 rfl) (d := 5) (v := (.pointer (some ⟨g, 0 + ((k : Int)).toNat * 79, none⟩))) rfl (by kernel_rfl) ?_
 refine Zr ?_
 refine Z7 ?_
 refine Zh ?_
 refine Zh ?_
 refine Zs ?_
 refine Z5 (Z2 rfl) (d := 9) (v := (.pointer (some ⟨g, 0 + ((k : Int)).toNat * 79, none⟩))) rfl (by kernel_rfl) ?_
 refine Z5 (Z2 rfl) (d := 10) (v := (.bool false)) rfl (by kernel_rfl) ?_
 refine Zr ?_
 refine Z7 ?_
 refine Z0o rfl ?_
 refine ZW ?_
 refine Z7 ?_
 refine Zh ?_
 refine Zs ?_
 refine Z5 (Z2 rfl) (d := 11) (v := (.pointer (some ⟨c, 0, none⟩))) rfl (by kernel_rfl) ?_
 refine Z5 (Z2 rfl) (d := 12) (v := (.pointer (some ⟨g, 0 + ((k : Int)).toNat * 79, none⟩))) rfl (by kernel_rfl) ?_
 refine Z5 (Z2 rfl) (d := 13) (v := (.pointer (some ⟨g, 0 + ((k : Int)).toNat * 79, none⟩))) rfl (by kernel_rfl) ?_
 refine Z5 (Z2 rfl) (d := 14) (v := (.agg ⟨(([(.int .i64 (x.cl)), (.int .i64 (x.seq))] : List Value) ++ hc x.h ++ ([(.int .i64 (x.len)), (.int .i64 (x.sb)), (.int .i64 (x.sm)), ((.slice pa P.length pc))] : List Value) ++ hc no ++ ([(.map (some ms)), (.pointer none), (.map (some ma)), (.map (some mr)), (.bool false), (.int .i64 (0)), (.map (some mp)), (.bool false), (ZX ([]))] : List Value))⟩)) rfl (Z0P (vs := (([(.int .i64 (x.cl)), (.int .i64 (x.seq))] : List Value) ++ hc x.h ++ ([(.int .i64 (x.len)), (.int .i64 (x.sb)), (.int .i64 (x.sm)), ((.slice pa P.length pc))] : List Value) ++ hc no ++ ([(.map (some ms)), (.pointer none), (.map (some ma)), (.map (some mr)), (.bool false), (.int .i64 (0)), (.map (some mp)), (.bool false), (ZX ([]))] : List Value))) rfl (by kernel_rfl) (by kernel_rfl) (Nat.le_of_ble_eq_true (by kernel_rfl)) (Z1u (H3.roCk 0 rfl hrow (fun _ _ h => h)) rfl Z0r hq 0 (show 0 + ((k : Int)).toNat * 79 = k * 79 + 0 by omega) (by kernel_rfl) (by kernel_rfl))) ?_
 refine ZQ (Z2 rfl) (fun K5 hK5 => ?_)
 refine ZJ (d := 15) rfl (by kernel_rfl) (Z1n w2 c bb F Cn id (.slice (some ⟨g, 0, none⟩) Q.length lc) (H3.roCk 0 rfl hcl (fun _ _ h => h)) hF hid x pa pc P no ms ma mr mp) ?_
 rintro _ w6 ⟨a7, c8, D9, B10, rfl, n11, o12, k13, p14, q15⟩
 have H16 : Sat w [Za w (fun _ => False), ZP [Ze 82 295 (.slice a7 D9.length c8) D9.length (D9.flatMap Z0b), Z0u B10]] w6 := H3.addU p14 k13 q15
 have H17 : Sat w [Za w (fun _ => False), Ze 82 295 (.slice a7 D9.length c8) D9.length (D9.flatMap Z0b), Z0u B10] w6 := H16.open 1 rfl
 refine ⟨_, rfl, ?_⟩
 refine hK5 _ _ ?_
 clear hK5 K5
 refine Z5 (Z2 rfl) (d := 4) (v := (.slice a7 D9.length c8)) rfl (by kernel_rfl) ?_
 refine Zr ?_
 refine Z7 ?_
 refine ZU ?_
 refine Z0T rfl (ZK (v := (.slice a7 D9.length c8)) rfl) ?_
 exact ⟨a7, c8, D9, B10, rfl, n11, o12, H17.fin [1, 2] (by decide) rfl, H17.upd 0 rfl [] (fun _ h => h.elim), H17.freshS 0 rfl (fun _ h => h) [1, 2] rfl rfl⟩
end Go.Proofs.YtgigjkjdmalmaaaGreat

namespace Go.Proofs.YtgigjkjdmalmaaaGreat
open Go.RowKit
theorem Z68 (x y : Zl) (W : World) : Calls Tryz.prog 84 #[.agg ⟨ZT x⟩, .agg ⟨ZT y⟩] W fun e w' => e = .returned (.int .i64 (IntKind.i64.wrap (x.r - y.r))) ∧ ∃ q os', w' = Sort.grow (W.drewN q) os' := by
 have hx : (ZT x)[0]? = some (.int .i64 x.r) := by kernel_rfl
 have hy : (ZT y)[0]? = some (.int .i64 y.r) := by kernel_rfl
 generalize ZT x = cx at hx ⊢
 generalize ZT y = cy at hy ⊢
 go_enter Tryz.func84, Tryz.ntmps84
 go_wp2
 go_ret
 exact ⟨by simp [IntWalk.i64_left], 0, _, by rw [Sort.alloc_eq_grow, Sort.alloc_eq_grow, Sort.grow_grow]; rfl⟩
theorem Z67 (w : World) (B : Nat) (x s : Zl) (hb : w.heap[B]? = some (.cells ⟨ZT s⟩ 49 (0, 0))) : Calls Tryz.prog 81 #[.agg ⟨ZT x⟩, .pointer (some ⟨B, 0, none⟩)] w fun e w' => e = .returned (.bool (decide (x.r = s.r))) ∧ Upd [] w w' := by
 have hx : (ZT x)[0]? = some (.int .i64 x.r) := by kernel_rfl
 have hs : (ZT s)[0]? = some (.int .i64 s.r) := by kernel_rfl
 have hc : w.cell? ⟨B, 0, none⟩ = some (.int .i64 s.r) := by rw [Z0H hb]; simpa using hs
 have hB : B < w.heap.size := Z1B hb
 have hne : B ≠ w.heap.size := by omega
 clear hb
 generalize ZT x = cx at hx ⊢
 go_enter Tryz.func81, Tryz.ntmps81
 go_wp2
 all_goals (go_ret; exact ⟨by simp_all [Bool.beq_eq_decide_eq], Below.upd ((Below.refl _ w).alloc (Nat.le_refl _) _)⟩)
end Go.Proofs.YtgigjkjdmalmaaaGreat
