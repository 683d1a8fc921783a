/- WHAT IS PROVED: contracts and plain laws of RepM, ClX. Conditions: stated with each. -/
import Derived.Test.YtgigjkjdmalmaaaGreatPR25
import Derived.Test.YtgigjkjdmalmaaaGreatPR26
set_option maxHeartbeats 4000000
set_option maxRecDepth 100000
namespace Go.Proofs.YtgigjkjdmalmaaaGreat
open Go.RowKit
def Z2O (F : Int) (S : List (Int × List UInt8)) (r : Int) (s told : List UInt8) : List UInt8 :=
 if r ∈ S.map (·.1) then told else if told = [] ∧ F + 1 ≤ (Z0R (Z0u S r s) s : Int) then s else told
structure Rep (F : Int) (S : List (Int × List UInt8)) (dn : Bool) (rp told : List UInt8) : Prop where
 d : dn = true ↔ Z4O S (F + 1).toNat
 t : told = if dn = true then rp else []
 n : dn = true → rp ≠ []
section
variable {F r : Int} {S : List (Int × List UInt8)} {dn : Bool} {rp told s : List UInt8}
theorem Rep.nil (hd : dn = false) : Rep F [] dn rp [] := by
 subst hd
 exact ⟨⟨(fun e => nomatch e), fun e => absurd e Z66⟩, rfl, fun e => nomatch e⟩
theorem Rep.no (H : Rep F S dn rp told) (hc : dn = true ∨ (Z0R (Z0u S r s) ((Zr (Z0u S r s) r).getD []) : Int) < F + 1) : Rep F (Z0u S r s) dn rp (Z2O F S r s told) := by
 have hd : dn = true ↔ Z4O (Z0u S r s) (F + 1).toNat := by
  rw [Z4x (d := ([] : List UInt8))]
  constructor
  ·exact fun q => .inl (H.d.1 q)
  ·rintro (q | q)
   ·exact H.d.2 q
   ·rcases hc with hc | hc
    ·exact hc
    ·omega
 have ht : Z2O F S r s told = told := by
  unfold Z2O
  split
  ·rfl
  ·rename_i hn
   rw [if_neg]
   rintro ⟨h1, h2⟩
   rcases hc with hc | hc
   ·have h3 := H.t
    rw [if_pos hc] at h3
    exact H.n hc (h3.symm.trans h1)
   ·rw [Z17 hn] at hc; omega
 exact ⟨hd, by rw [ht]; exact H.t, H.n⟩
theorem Rep.yes (H : Rep F S dn rp told) (hs : s ≠ []) (hd : dn = false) (hF : 1 ≤ F) (hc : F + 1 ≤ (Z0R (Z0u S r s) ((Zr (Z0u S r s) r).getD []) : Int)) : Rep F (Z0u S r s) true ((Zr (Z0u S r s) r).getD []) (Z2O F S r s told) := by
 have hn : r ∉ S.map (·.1) := fun q => by
  have h1 : Z4O S (F + 1).toNat := ⟨_, Z5f (d := ([] : List UInt8)) q, by
   have z := hc
   rw [Z2s q] at z
   show (F + 1).toNat ≤ Z0R S ((Zr S r).getD []); omega⟩
  have := H.d.2 h1
  rw [hd] at this; cases this
 have ht := H.t
 rw [if_neg (by rw [hd]; simp)] at ht
 rw [Z17 hn] at hc ⊢
 refine ⟨⟨fun _ => ?_, fun _ => rfl⟩, ?_, fun _ => hs⟩
 ·rw [Z4x (d := ([] : List UInt8)), Z17 hn]
  exact .inr (by omega)
 ·unfold Z2O
  rw [if_neg hn, if_pos ⟨ht, hc⟩, if_pos rfl]
end
theorem Z44 (w : World) (c bb : Nat) (F Cn id : Int) (v : Value) (hcl : (Z6 c 112 [.int .i64 F, .int .i64 Cn, .int .i64 id, .pointer (some ⟨bb, 0, none⟩), v]).ok w) (hF : 1 ≤ F ∧ F ≤ 100) (hid : 0 ≤ id ∧ id ≤ 1000000) (q : Zl) (hP : ListAt Zo 1 w (.slice q.pa q.P.length q.pc) q.P) (hlP : q.P.length ≤ 1000) (hwy : q.dn = true) :
  Calls Tryz.prog 30 #[(.pointer (some ⟨c, 0, none⟩)), (.agg ⟨(([(.int .i64 (q.x.cl)), (.int .i64 (q.x.seq))] : List Value) ++ hc q.x.h ++ ([(.int .i64 (q.x.len)), (.int .i64 (q.x.sb)), (.int .i64 (q.x.sm)), ((.slice q.pa q.P.length q.pc))] : List Value) ++ hc q.no ++ ([(.map (some q.ms)), ((.pointer (q.cb.map fun z => ⟨z, 0, none⟩))), (.map (some q.ma)), (.map (some q.mr)), (.bool (q.op)), (.int .i64 (q.pl)), (.map (some q.mp)), (.bool (q.dn)), (Zt q.rp)] : List Value))⟩)] w fun e w' => e = .returned (.slice none 0 0) ∧ Upd [] w w' := by
 have H := Sat.start0 w
 refine Zu Tryz.func30 rfl 37 rfl (Nat.le_of_ble_eq_true rfl) ?_
 refine Zf ?_
 refine Zm ?_
 refine ZC (Z1 rfl) (fun K1 hK1 => ?_)
 refine Z0L (vs := (([(.int .i64 (q.x.cl)), (.int .i64 (q.x.seq))] : List Value) ++ hc q.x.h ++ ([(.int .i64 (q.x.len)), (.int .i64 (q.x.sb)), (.int .i64 (q.x.sm)), ((.slice q.pa q.P.length q.pc))] : List Value) ++ hc q.no ++ ([(.map (some q.ms)), ((.pointer (q.cb.map fun z => ⟨z, 0, none⟩))), (.map (some q.ma)), (.map (some q.mr)), (.bool (q.op)), (.int .i64 (q.pl)), (.map (some q.mp)), (.bool (q.dn)), (Zt q.rp)] : List Value))) rfl H rfl rfl ?_
 intro b2 w3 (H4 : Sat w [Zb w (fun _ => False), Z6 b2 119 (([(.int .i64 (q.x.cl)), (.int .i64 (q.x.seq))] : List Value) ++ hc q.x.h ++ ([(.int .i64 (q.x.len)), (.int .i64 (q.x.sb)), (.int .i64 (q.x.sm)), ((.slice q.pa q.P.length q.pc))] : List Value) ++ hc q.no ++ ([(.map (some q.ms)), ((.pointer (q.cb.map fun z => ⟨z, 0, none⟩))), (.map (some q.ma)), (.map (some q.mr)), (.bool (q.op)), (.int .i64 (q.pl)), (.map (some q.mp)), (.bool (q.dn)), (Zt q.rp)] : List Value))] w3)
 refine hK1 _ _ ?_
 clear hK1 K1
 refine Z3 (Z1 rfl) (d := 4) (v := (.slice none 0 0)) rfl (by kernel_rfl) ?_
 refine Zj ?_
 refine Z7 ?_
 refine Zf ?_
 refine ZB ?_
 refine Zf ?_
 refine Zm ?_
 refine Z3 (Z1 rfl) (d := 6) (v := (.pointer (some ⟨b2, 77, none⟩))) rfl (by kernel_rfl) ?_
 refine Z3 (Z1 rfl) (d := 7) (v := (.bool (q.dn))) rfl (Zh rfl (by kernel_rfl) (H4.cell 1 rfl (by kernel_rfl))) ?_
 refine Z3 (Z1 rfl) (d := 5) (v := (.bool (q.dn))) rfl (by kernel_rfl) ?_
 refine Zj ?_
 refine Z7 ?_
 have b5 : (q.dn) = true := by exact hwy
 refine Zq 5 (.bool true) (congrArg Value.bool b5) ?_
 refine Z0o rfl ?_
 refine Zf ?_
 refine Zm ?_
 refine Z3 (Z1 rfl) (d := 4) (v := (.slice none 0 0)) rfl (by kernel_rfl) ?_
 refine Zj ?_
 refine Z7 ?_
 refine ZY ?_
 refine Z35 ?_
 refine Z1b ?_
 refine Z0I rfl (ZI (v := (.slice none 0 0)) rfl) ?_
 exact ⟨rfl, H4.upd 0 rfl [] (fun _ h => h.elim)⟩
theorem Z3z (w : World) (c bb g lc : Nat) (F Cn id : Int) (Q : List Zl) (hcl : (Z6 c 112 [.int .i64 F, .int .i64 Cn, .int .i64 id, .pointer (some ⟨bb, 0, none⟩), .slice (some ⟨g, 0, none⟩) Q.length lc]).ok w) (hrow : (Ze 119 79 (.slice (some ⟨g, 0, none⟩) Q.length lc) Q.length (Q.flatMap Zg)).ok w) (hlQ : Q.length ≤ 64) (k : Nat) (q : Zl) (hq : Q[k]? = some q) (hF : 1 ≤ F ∧ F ≤ 100) (hid : 0 ≤ id ∧ id ≤ 1000000) (hP : ListAt Zo 1 w (.slice q.pa q.P.length q.pc) q.P) (hlP : q.P.length ≤ 1000) (hwy : q.dn = true) (sq : Int) (hsq : sq = (k : Int) + 1) :
  Calls Tryz.prog 18 #[(.pointer (some ⟨c, 0, none⟩)), (.int .i64 (sq))] w fun e w' => e = .returned (.slice none 0 0) ∧ Upd [] w w' := by
 have H := Sat.start0 w
 have hkl : k < Q.length := (List.getElem?_eq_some_iff.1 hq).1
 refine Zu Tryz.func18 rfl 16 rfl (Nat.le_of_ble_eq_true rfl) ?_
 refine Zf ?_
 refine Zm ?_
 refine Z3 (Z1 rfl) (d := 4) (v := (.slice none 0 0)) rfl (by kernel_rfl) ?_
 refine Zj ?_
 refine Z7 ?_
 refine Zf ?_
 refine Zm ?_
 refine Z3 (Z1 rfl) (d := 6) (v := (.pointer (some ⟨c, 0, none⟩))) rfl (by kernel_rfl) ?_
 refine Z3 (Z1 rfl) (d := 7) (v := (.int .i64 (sq))) rfl (by kernel_rfl) ?_
 refine ZC (Z1 rfl) (fun K1 hK1 => ?_)
 refine ZD (d := 8) rfl (by kernel_rfl) (Z1h w c bb g lc F Cn id Q (H.roCk 0 rfl hcl (fun _ _ h => h)) (H.roCk 0 rfl hrow (fun _ _ h => h)) hlQ k q hq sq (by omega)) ?_
 rintro _ w2 ⟨rfl, u4⟩
 have H3 := H.keepU u4
 refine ⟨_, rfl, ?_⟩
 refine hK1 _ _ ?_
 clear hK1 K1
 refine Z3 (Z1 rfl) (d := 5) (v := (.pointer (some ⟨g, 0 + ((k : Int)).toNat * 79, none⟩))) rfl (by kernel_rfl) ?_
 refine Zj ?_
 refine Z7 ?_
 refine Zf ?_
 refine Zf ?_
 refine Zm ?_
 refine Z3 (Z1 rfl) (d := 9) (v := (.pointer (some ⟨g, 0 + ((k : Int)).toNat * 79, none⟩))) rfl (by kernel_rfl) ?_
 refine Z3 (Z1 rfl) (d := 10) (v := (.bool false)) rfl (by kernel_rfl) ?_
 refine Zj ?_
 refine Z7 ?_
 refine ZT rfl ?_
 refine ZO ?_
 refine Z7 ?_
 refine Zf ?_
 refine Zm ?_
 refine Z3 (Z1 rfl) (d := 11) (v := (.pointer (some ⟨c, 0, none⟩))) rfl (by kernel_rfl) ?_
 refine Z3 (Z1 rfl) (d := 12) (v := (.pointer (some ⟨g, 0 + ((k : Int)).toNat * 79, none⟩))) rfl (by kernel_rfl) ?_
 refine Z3 (Z1 rfl) (d := 13) (v := (.pointer (some ⟨g, 0 + ((k : Int)).toNat * 79, none⟩))) rfl (by kernel_rfl) ?_
 refine Z3 (Z1 rfl) (d := 14) (v := (.agg ⟨(([(.int .i64 (q.x.cl)), (.int .i64 (q.x.seq))] : List Value) ++ hc q.x.h ++ ([(.int .i64 (q.x.len)), (.int .i64 (q.x.sb)), (.int .i64 (q.x.sm)), ((.slice q.pa q.P.length q.pc))] : List Value) ++ hc q.no ++ ([(.map (some q.ms)), ((.pointer (q.cb.map fun z => ⟨z, 0, none⟩))), (.map (some q.ma)), (.map (some q.mr)), (.bool (q.op)), (.int .i64 (q.pl)), (.map (some q.mp)), (.bool (q.dn)), (Zt q.rp)] : List Value))⟩)) rfl (Z0E (vs := (([(.int .i64 (q.x.cl)), (.int .i64 (q.x.seq))] : List Value) ++ hc q.x.h ++ ([(.int .i64 (q.x.len)), (.int .i64 (q.x.sb)), (.int .i64 (q.x.sm)), ((.slice q.pa q.P.length q.pc))] : List Value) ++ hc q.no ++ ([(.map (some q.ms)), ((.pointer (q.cb.map fun z => ⟨z, 0, none⟩))), (.map (some q.ma)), (.map (some q.mr)), (.bool (q.op)), (.int .i64 (q.pl)), (.map (some q.mp)), (.bool (q.dn)), (Zt q.rp)] : List Value))) rfl (by kernel_rfl) (by kernel_rfl) (Nat.le_of_ble_eq_true (by kernel_rfl)) (Z1a (H3.roCk 0 rfl hrow (fun _ _ h => h)) rfl ZN hq 0 (show 0 + ((k : Int)).toNat * 79 = k * 79 + 0 by omega) (by kernel_rfl) (by kernel_rfl))) ?_
 refine ZC (Z1 rfl) (fun K5 hK5 => ?_)
 refine ZD (d := 15) rfl (by kernel_rfl) (Z44 w2 c bb F Cn id (.slice (some ⟨g, 0, none⟩) Q.length lc) (H3.roCk 0 rfl hcl (fun _ _ h => h)) hF hid q (ListAt.now H3 0 rfl hP) hlP hwy) ?_
 rintro _ w6 ⟨rfl, u7⟩
 have H8 := H3.keepU u7
 refine ⟨_, rfl, ?_⟩
 refine hK5 _ _ ?_
 clear hK5 K5
 refine Z3 (Z1 rfl) (d := 4) (v := (.slice none 0 0)) rfl (by kernel_rfl) ?_
 refine Zj ?_
 refine Z7 ?_
 refine ZY ?_
 refine Z0I rfl (ZI (v := (.slice none 0 0)) rfl) ?_
 exact ⟨rfl, H8.upd 0 rfl [] (fun _ h => h.elim)⟩
theorem Z45 (w : World) (c bb : Nat) (F Cn id : Int) (v : Value) (hcl : (Z6 c 112 [.int .i64 F, .int .i64 Cn, .int .i64 id, .pointer (some ⟨bb, 0, none⟩), v]).ok w) (hF : 1 ≤ F ∧ F ≤ 100) (hid : 0 ≤ id ∧ id ≤ 1000000) (q : Zl) (hP : ListAt Zo 1 w (.slice q.pa q.P.length q.pc) q.P) (hlP : q.P.length ≤ 1000) (hwy : q.op = true ∧ q.dn = false) :
  Calls Tryz.prog 30 #[(.pointer (some ⟨c, 0, none⟩)), (.agg ⟨(([(.int .i64 (q.x.cl)), (.int .i64 (q.x.seq))] : List Value) ++ hc q.x.h ++ ([(.int .i64 (q.x.len)), (.int .i64 (q.x.sb)), (.int .i64 (q.x.sm)), ((.slice q.pa q.P.length q.pc))] : List Value) ++ hc q.no ++ ([(.map (some q.ms)), ((.pointer (q.cb.map fun z => ⟨z, 0, none⟩))), (.map (some q.ma)), (.map (some q.mr)), (.bool (q.op)), (.int .i64 (q.pl)), (.map (some q.mp)), (.bool (q.dn)), (Zt q.rp)] : List Value))⟩)] w fun e w' => ∃ (da : Option Addr) (dc : Nat) (D : List OmR) (B : List Ck), e = .returned (.slice da D.length dc) ∧ (D.length : Int) = 3 * F + 1 ∧ (∀ j, j < D.length → Z4X (1000 + id) (⟨10, 0, 0, co0, co0, none, 0, [], q.pl, q.pa, q.pc, q.P, q.no⟩ : OmR) B j (D.getD j om0)) ∧ (ZF [Ze 82 295 (.slice da D.length dc) D.length (D.flatMap Z04), Z0U B]).ok w' ∧ Upd [] w w' ∧ ∀ q_, (ZF [Ze 82 295 (.slice da D.length dc) D.length (D.flatMap Z04), Z0U B]).fp q_ → w.heap.size ≤ q_ := by
 have H := Sat.start0 w
 refine Zu Tryz.func30 rfl 37 rfl (Nat.le_of_ble_eq_true rfl) ?_
 refine Zf ?_
 refine Zm ?_
 refine ZC (Z1 rfl) (fun K1 hK1 => ?_)
 refine Z0L (vs := (([(.int .i64 (q.x.cl)), (.int .i64 (q.x.seq))] : List Value) ++ hc q.x.h ++ ([(.int .i64 (q.x.len)), (.int .i64 (q.x.sb)), (.int .i64 (q.x.sm)), ((.slice q.pa q.P.length q.pc))] : List Value) ++ hc q.no ++ ([(.map (some q.ms)), ((.pointer (q.cb.map fun z => ⟨z, 0, none⟩))), (.map (some q.ma)), (.map (some q.mr)), (.bool (q.op)), (.int .i64 (q.pl)), (.map (some q.mp)), (.bool (q.dn)), (Zt q.rp)] : List Value))) rfl H rfl rfl ?_
 intro b2 w3 (H4 : Sat w [Zb w (fun _ => False), Z6 b2 119 (([(.int .i64 (q.x.cl)), (.int .i64 (q.x.seq))] : List Value) ++ hc q.x.h ++ ([(.int .i64 (q.x.len)), (.int .i64 (q.x.sb)), (.int .i64 (q.x.sm)), ((.slice q.pa q.P.length q.pc))] : List Value) ++ hc q.no ++ ([(.map (some q.ms)), ((.pointer (q.cb.map fun z => ⟨z, 0, none⟩))), (.map (some q.ma)), (.map (some q.mr)), (.bool (q.op)), (.int .i64 (q.pl)), (.map (some q.mp)), (.bool (q.dn)), (Zt q.rp)] : List Value))] w3)
 refine hK1 _ _ ?_
 clear hK1 K1
 refine Z3 (Z1 rfl) (d := 4) (v := (.slice none 0 0)) rfl (by kernel_rfl) ?_
 refine Zj ?_
 refine Z7 ?_
 refine Zf ?_
 refine ZB ?_
 refine Zf ?_
 refine Zm ?_
 refine Z3 (Z1 rfl) (d := 6) (v := (.pointer (some ⟨b2, 77, none⟩))) rfl (by kernel_rfl) ?_
 refine Z3 (Z1 rfl) (d := 7) (v := (.bool (q.dn))) rfl (Zh rfl (by kernel_rfl) (H4.cell 1 rfl (by kernel_rfl))) ?_
 refine Z3 (Z1 rfl) (d := 5) (v := (.bool (q.dn))) rfl (by kernel_rfl) ?_
 refine Zj ?_
 refine Z7 ?_
 have b5 : (q.dn) = false := by exact hwy.2
 refine Zq 5 (.bool false) (congrArg Value.bool b5) ?_
 refine ZT rfl ?_
 refine Zf ?_
 refine Zm ?_
 refine Z3 (Z1 rfl) (d := 9) (v := (.pointer (some ⟨b2, 74, none⟩))) rfl (by kernel_rfl) ?_
 refine Z3 (Z1 rfl) (d := 10) (v := (.bool (q.op))) rfl (Zh rfl (by kernel_rfl) (H4.cell 1 rfl (by kernel_rfl))) ?_
 refine Z3 (Z1 rfl) (d := 8) (v := (.bool (q.op))) rfl (by kernel_rfl) ?_
 refine Zj ?_
 refine Z7 ?_
 have b6 : (q.op) = true := by exact hwy.1
 refine Zq 8 (.bool true) (congrArg Value.bool b6) ?_
 refine Z0o rfl ?_
 refine Zf ?_
 refine Zm ?_
 refine Z3 (Z1 rfl) (d := 11) (v := (.pointer (some ⟨c, 0, none⟩))) rfl (by kernel_rfl) ?_
 refine Z3 (Z1 rfl) (d := 12) (v := (.pointer (some ⟨b2, 75, none⟩))) rfl (by kernel_rfl) ?_
 refine Z3 (Z1 rfl) (d := 13) (v := (.int .i64 (q.pl))) rfl (Zh rfl (by kernel_rfl) (H4.cell 1 rfl (by kernel_rfl))) ?_
 refine Z3 (Z1 rfl) (d := 14) (v := (.pointer (some ⟨b2, 37, none⟩))) rfl (by kernel_rfl) ?_
 refine Z3 (Z1 rfl) (d := 15) (v := ((.slice q.pa q.P.length q.pc))) rfl (Zh rfl (by kernel_rfl) (H4.cell 1 rfl (by kernel_rfl))) ?_
 refine Z3 (Z1 rfl) (d := 16) (v := (.pointer (some ⟨b2, 38, none⟩))) rfl (by kernel_rfl) ?_
 refine Z3 (Z1 rfl) (d := 17) (v := (.agg ⟨(hc q.no)⟩)) rfl (ZM (vs := (hc q.no)) rfl (by kernel_rfl) (by kernel_rfl) (by exact Nat.le_of_ble_eq_true (by kernel_rfl)) (H4.at 1 rfl) (by kernel_rfl)) ?_
 refine Z3 (Z1 rfl) (d := 18) (v := (.agg ⟨(([(.int .i64 (q.pl)), ((.slice q.pa q.P.length q.pc))] : List Value) ++ hc q.no)⟩)) rfl (by kernel_rfl) ?_
 refine Z3 (Z1 rfl) (d := 19) (v := (.agg ⟨(([(.int .i64 (10)), (.int .i64 (0)), (.int .i64 (0)), (.int .i64 (0)), (.int .i64 (0))] : List Value) ++ hc Za ++ ([(.int .i64 (0)), (.int .i64 (0)), (.int .i64 (0)), (.int .i64 (0)), (.int .i64 (0)), (.int .i64 (0))] : List Value) ++ hc Za ++ ([(.int .u64 (0)), (.int .i64 (0)), (.int .i64 (0)), (.int .i64 (0)), (.int .i64 (0))] : List Value) ++ hc Za ++ ([(.int .i64 (0)), (.int .i64 (0)), (.int .i64 (0)), (.slice none 0 0), (.int .i64 (0)), (.int .i64 (0)), (.int .i64 (0))] : List Value) ++ hc Za ++ ([(.int .u64 (0)), (.int .i64 (0)), (.int .i64 (0)), (.int .i64 (0)), (.int .i64 (0)), (.int .u64 (0)), (.int .i64 (0)), (.int .i64 (0)), (.int .u64 (0)), (.slice none 0 0), (.int .i64 (0)), (.int .i64 (0)), (.int .i64 (0)), (.int .i64 (0)), (.int .i64 (0)), (.int .i64 (0)), (.int .i64 (0)), (.int .u64 (0)), (.slice none 0 0), (.slice none 0 0), (.slice none 0 0), (.int .i64 (0)), (.int .i64 (0)), (.int .i64 (0))] : List Value) ++ ([(.int .i64 (0)), (.int .i64 (0)), (.int .i64 (0))] : List Value) ++ hc Za ++ ([(.int .i64 (0)), (.int .i64 (0)), (.int .i64 (0)), (.int .i64 (0)), (.int .i64 (0))] : List Value) ++ hc Za ++ ([(.int .u64 (0)), (.int .i64 (q.pl)), ((.slice q.pa q.P.length q.pc))] : List Value) ++ hc q.no ++ ([(.int .i64 (0)), (.int .i64 (0)), (.int .i64 (0)), (.int .i64 (0)), (Zt ([] : List UInt8)), (.int .i64 (0)), (.int .i64 (0)), (.int .i64 (0)), (.int .u64 (0)), (.slice none 0 0), (.slice none 0 0), (.slice none 0 0), (.slice none 0 0)] : List Value))⟩)) rfl (by kernel_rfl) ?_
 refine ZC (Z1 rfl) (fun K7 hK7 => ?_)
 refine ZD (d := 20) rfl (by kernel_rfl) (Z2x w3 c bb F Cn id v (H4.roCk 0 rfl hcl (fun _ _ h => h)) hF hid (⟨10, 0, 0, co0, co0, none, 0, [], q.pl, q.pa, q.pc, q.P, q.no⟩ : OmR) ListAt.nil (Nat.zero_le _) (ListAt.now H4 0 rfl hP) hlP) ?_
 rintro _ w8 ⟨a9, c10, D11, B12, rfl, n13, o14, k15, p16, q17⟩
 have H18 : Sat w [Zb w (fun _ => False), Z6 b2 119 (([(.int .i64 (q.x.cl)), (.int .i64 (q.x.seq))] : List Value) ++ hc q.x.h ++ ([(.int .i64 (q.x.len)), (.int .i64 (q.x.sb)), (.int .i64 (q.x.sm)), ((.slice q.pa q.P.length q.pc))] : List Value) ++ hc q.no ++ ([(.map (some q.ms)), ((.pointer (q.cb.map fun z => ⟨z, 0, none⟩))), (.map (some q.ma)), (.map (some q.mr)), (.bool (q.op)), (.int .i64 (q.pl)), (.map (some q.mp)), (.bool (q.dn)), (Zt q.rp)] : List Value)), ZF [Ze 82 295 (.slice a9 D11.length c10) D11.length (D11.flatMap Z04), Z0U B12]] w8 := H4.addU p16 k15 q17
 have H19 : Sat w [Zb w (fun _ => False), Z6 b2 119 (([(.int .i64 (q.x.cl)), (.int .i64 (q.x.seq))] : List Value) ++ hc q.x.h ++ ([(.int .i64 (q.x.len)), (.int .i64 (q.x.sb)), (.int .i64 (q.x.sm)), ((.slice q.pa q.P.length q.pc))] : List Value) ++ hc q.no ++ ([(.map (some q.ms)), ((.pointer (q.cb.map fun z => ⟨z, 0, none⟩))), (.map (some q.ma)), (.map (some q.mr)), (.bool (q.op)), (.int .i64 (q.pl)), (.map (some q.mp)), (.bool (q.dn)), (Zt q.rp)] : List Value)), Ze 82 295 (.slice a9 D11.length c10) D11.length (D11.flatMap Z04), Z0U B12] w8 := H18.open 2 rfl
 refine ⟨_, rfl, ?_⟩
 refine hK7 _ _ ?_
 clear hK7 K7
 refine Z3 (Z1 rfl) (d := 4) (v := (.slice a9 D11.length c10)) rfl (by kernel_rfl) ?_
 refine Zj ?_
 refine Z7 ?_
 refine ZY ?_
 refine Z35 ?_
 refine Z1b ?_
 refine Z0I rfl (ZI (v := (.slice a9 D11.length c10)) rfl) ?_
 exact ⟨a9, c10, D11, B12, rfl, n13, o14, H19.fin [2, 3] (by decide) rfl, H19.upd 0 rfl [] (fun _ h => h.elim), H19.freshS 0 rfl (fun _ h => h) [2, 3] rfl rfl⟩
theorem Z3A (w : World) (c bb g lc : Nat) (F Cn id : Int) (Q : List Zl) (hcl : (Z6 c 112 [.int .i64 F, .int .i64 Cn, .int .i64 id, .pointer (some ⟨bb, 0, none⟩), .slice (some ⟨g, 0, none⟩) Q.length lc]).ok w) (hrow : (Ze 119 79 (.slice (some ⟨g, 0, none⟩) Q.length lc) Q.length (Q.flatMap Zg)).ok w) (hlQ : Q.length ≤ 64) (k : Nat) (q : Zl) (hq : Q[k]? = some q) (hF : 1 ≤ F ∧ F ≤ 100) (hid : 0 ≤ id ∧ id ≤ 1000000) (hP : ListAt Zo 1 w (.slice q.pa q.P.length q.pc) q.P) (hlP : q.P.length ≤ 1000) (hwy : q.op = true ∧ q.dn = false) (sq : Int) (hsq : sq = (k : Int) + 1) :
  Calls Tryz.prog 18 #[(.pointer (some ⟨c, 0, none⟩)), (.int .i64 (sq))] w fun e w' => ∃ (da : Option Addr) (dc : Nat) (D : List OmR) (B : List Ck), e = .returned (.slice da D.length dc) ∧ (D.length : Int) = 3 * F + 1 ∧ (∀ j, j < D.length → Z4X (1000 + id) (⟨10, 0, 0, co0, co0, none, 0, [], q.pl, q.pa, q.pc, q.P, q.no⟩ : OmR) B j (D.getD j om0)) ∧ (ZF [Ze 82 295 (.slice da D.length dc) D.length (D.flatMap Z04), Z0U B]).ok w' ∧ Upd [] w w' ∧ ∀ q_, (ZF [Ze 82 295 (.slice da D.length dc) D.length (D.flatMap Z04), Z0U B]).fp q_ → w.heap.size ≤ q_ := by
 have H := Sat.start0 w
 have hkl : k < Q.length := (List.getElem?_eq_some_iff.1 hq).1
 refine Zu Tryz.func18 rfl 16 rfl (Nat.le_of_ble_eq_true rfl) ?_
 refine Zf ?_
 refine Zm ?_
 refine Z3 (Z1 rfl) (d := 4) (v := (.slice none 0 0)) rfl (by kernel_rfl) ?_
 refine Zj ?_
 refine Z7 ?_
 refine Zf ?_
 refine Zm ?_
 refine Z3 (Z1 rfl) (d := 6) (v := (.pointer (some ⟨c, 0, none⟩))) rfl (by kernel_rfl) ?_
 refine Z3 (Z1 rfl) (d := 7) (v := (.int .i64 (sq))) rfl (by kernel_rfl) ?_
 refine ZC (Z1 rfl) (fun K1 hK1 => ?_)
 refine ZD (d := 8) rfl (by kernel_rfl) (Z1h w c bb g lc F Cn id Q (H.roCk 0 rfl hcl (fun _ _ h => h)) (H.roCk 0 rfl hrow (fun _ _ h => h)) hlQ k q hq sq (by omega)) ?_
 rintro _ w2 ⟨rfl, u4⟩
 have H3 := H.keepU u4
 refine ⟨_, rfl, ?_⟩
 refine hK1 _ _ ?_
 clear hK1 K1
 refine Z3 (Z1 rfl) (d := 5) (v := (.pointer (some ⟨g, 0 + ((k : Int)).toNat * 79, none⟩))) rfl (by kernel_rfl) ?_
 refine Zj ?_
 refine Z7 ?_
 refine Zf ?_
 refine Zf ?_
 refine Zm ?_
 refine Z3 (Z1 rfl) (d := 9) (v := (.pointer (some ⟨g, 0 + ((k : Int)).toNat * 79, none⟩))) rfl (by kernel_rfl) ?_
 refine Z3 (Z1 rfl) (d := 10) (v := (.bool false)) rfl (by kernel_rfl) ?_
 refine Zj ?_
 refine Z7 ?_
 refine ZT rfl ?_
 refine ZO ?_
 refine Z7 ?_
 refine Zf ?_
 refine Zm ?_
 refine Z3 (Z1 rfl) (d := 11) (v := (.pointer (some ⟨c, 0, none⟩))) rfl (by kernel_rfl) ?_
 refine Z3 (Z1 rfl) (d := 12) (v := (.pointer (some ⟨g, 0 + ((k : Int)).toNat * 79, none⟩))) rfl (by kernel_rfl) ?_
 refine Z3 (Z1 rfl) (d := 13) (v := (.pointer (some ⟨g, 0 + ((k : Int)).toNat * 79, none⟩))) rfl (by kernel_rfl) ?_
 refine Z3 (Z1 rfl) (d := 14) (v := (.agg ⟨(([(.int .i64 (q.x.cl)), (.int .i64 (q.x.seq))] : List Value) ++ hc q.x.h ++ ([(.int .i64 (q.x.len)), (.int .i64 (q.x.sb)), (.int .i64 (q.x.sm)), ((.slice q.pa q.P.length q.pc))] : List Value) ++ hc q.no ++ ([(.map (some q.ms)), ((.pointer (q.cb.map fun z => ⟨z, 0, none⟩))), (.map (some q.ma)), (.map (some q.mr)), (.bool (q.op)), (.int .i64 (q.pl)), (.map (some q.mp)), (.bool (q.dn)), (Zt q.rp)] : List Value))⟩)) rfl (Z0E (vs := (([(.int .i64 (q.x.cl)), (.int .i64 (q.x.seq))] : List Value) ++ hc q.x.h ++ ([(.int .i64 (q.x.len)), (.int .i64 (q.x.sb)), (.int .i64 (q.x.sm)), ((.slice q.pa q.P.length q.pc))] : List Value) ++ hc q.no ++ ([(.map (some q.ms)), ((.pointer (q.cb.map fun z => ⟨z, 0, none⟩))), (.map (some q.ma)), (.map (some q.mr)), (.bool (q.op)), (.int .i64 (q.pl)), (.map (some q.mp)), (.bool (q.dn)), (Zt q.rp)] : List Value))) rfl (by kernel_rfl) (by kernel_rfl) (Nat.le_of_ble_eq_true (by kernel_rfl)) (Z1a (H3.roCk 0 rfl hrow (fun _ _ h => h)) rfl ZN hq 0 (show 0 + ((k : Int)).toNat * 79 = k * 79 + 0 by omega) (by kernel_rfl) (by kernel_rfl))) ?_
 refine ZC (Z1 rfl) (fun K5 hK5 => ?_)
 refine ZD (d := 15) rfl (by kernel_rfl) (Z45 w2 c bb F Cn id (.slice (some ⟨g, 0, none⟩) Q.length lc) (H3.roCk 0 rfl hcl (fun _ _ h => h)) hF hid q (ListAt.now H3 0 rfl hP) hlP hwy) ?_
 rintro _ w6 ⟨a7, c8, D9, B10, rfl, n11, o12, k13, p14, q15⟩
 have H16 : Sat w [Zb w (fun _ => False), ZF [Ze 82 295 (.slice a7 D9.length c8) D9.length (D9.flatMap Z04), Z0U B10]] w6 := H3.addU p14 k13 q15
 have H17 : Sat w [Zb w (fun _ => False), Ze 82 295 (.slice a7 D9.length c8) D9.length (D9.flatMap Z04), Z0U B10] w6 := H16.open 1 rfl
 refine ⟨_, rfl, ?_⟩
 refine hK5 _ _ ?_
 clear hK5 K5
 refine Z3 (Z1 rfl) (d := 4) (v := (.slice a7 D9.length c8)) rfl (by kernel_rfl) ?_
 refine Zj ?_
 refine Z7 ?_
 refine ZY ?_
 refine Z0I rfl (ZI (v := (.slice a7 D9.length c8)) rfl) ?_
 exact ⟨a7, c8, D9, B10, rfl, n11, o12, H17.fin [1, 2] (by decide) rfl, H17.upd 0 rfl [] (fun _ h => h.elim), H17.freshS 0 rfl (fun _ h => h) [1, 2] rfl rfl⟩
end Go.Proofs.YtgigjkjdmalmaaaGreat
