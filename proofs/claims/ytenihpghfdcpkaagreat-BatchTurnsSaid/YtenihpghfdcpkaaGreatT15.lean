/- WHAT IS PROVED: contracts and plain laws of OfR, BatD, Small, Less, CmpE, Grow, CmpF, Sort12N, Sort12, StrMap, EntM. Conditions: stated with each. -/
import Derived.Sort.Grow
import Derived.Deep.Draws
import Derived.Test.YtenihpghfdcpkaaGreatT03
import Derived.Test.YtenihpghfdcpkaaGreatT04
import Derived.Test.YtenihpghfdcpkaaGreatT05
import Derived.Test.YtenihpghfdcpkaaGreatT06
import Derived.Test.YtenihpghfdcpkaaGreatT07
import Derived.Test.YtenihpghfdcpkaaGreatT08
import Derived.Test.YtenihpghfdcpkaaGreatT10
import Derived.Test.YtenihpghfdcpkaaGreatT11
import Derived.Test.YtenihpghfdcpkaaGreatT12
import Derived.Test.YtenihpghfdcpkaaGreatT14
set_option maxHeartbeats 4000000
set_option maxRecDepth 100000
namespace Go.Proofs.YtenihpghfdcpkaaGreat
open Go.RowKit
abbrev kOfR_0 (p0 : Int) (p1 : Int) : List Value := ([(.int .i64 p0), (.int .i64 p1)] : List Value)
abbrev kOfR_1 : List Value := ([(.int .u8 (99)), (.int .u8 (111)), (.int .u8 (109)), (.int .u8 (109)), (.int .u8 (105)), (.int .u8 (116))] : List Value)
abbrev kOfR_3 (p0 : Option Addr) (p1 : Nat) (p2 : Nat) (p3 : Option Addr) (p4 : Nat) (p5 : Nat) (p6 : Option Addr) (p7 : Nat) (p8 : Nat) (p9 : Nat) (p10 : Option Addr) (p11 : Nat) (p12 : Nat) : List Value := ([(.slice p0 p1 p2), (.slice p3 p4 p5), (.slice p6 p7 p8), (.slice (some ⟨p9, 0, none⟩) 32 32), (.slice p10 p11 p12)] : List Value)
def ofT (cl seq : Int) (x : Hash) (p : List UInt8) : List UInt8 := [rowB [99, 111, 109, 109, 105, 116], intB cl, intB seq, x.l, rowB p].flatten
theorem ofT_len (cl seq : Int) (x : Hash) (p : List UInt8) : (ofT cl seq x p).length ≤ p.length + 100 := by
 have h1 := intB_len cl; have h2 := intB_len seq; have h3 := x.len; have h4 := rowB_len p; have h5 := rowB_len [99, 111, 109, 109, 105, 116]
 simp only [List.length_cons, List.length_nil] at h5
 simp only [ofT, List.flatten_cons, List.flatten_nil, List.length_append, List.length_nil]; omega
theorem ofT_app (cl seq : Int) (x : Hash) (p : List UInt8) : ofT cl seq x p = ([] ++ rowB [99, 111, 109, 109, 105, 116] ++ intB cl ++ intB seq ++ x.l ++ rowB p) := by
 simp only [ofT, List.flatten_cons, List.flatten_nil, List.append_nil, List.nil_append, List.append_assoc]
theorem ofT_lim (cl seq : Int) (x : Hash) (p : List UInt8) (h : p.length ≤ 1000) : ([] ++ rowB [99, 111, 109, 109, 105, 116] ++ intB cl ++ intB seq ++ x.l ++ rowB p).length ≤ 1000000 := by
 have := ofT_len cl seq x p
 rw [ofT_app] at this; omega
theorem rOf_any (w : World) (cl seq : Int) (x : Hash) (pa : Option Addr) (pc : Nat) (p : List UInt8) (hp : ListAt encB 1 w (.slice pa p.length pc) p) (hcl : cl ≤ 9223372036854775807) (hsq : seq ≤ 9223372036854775807) (hlp : p.length ≤ 1000) :
  Calls Tryz.prog 29 #[(.agg ⟨([(.int .i64 (cl)), (.int .i64 (seq))] : List Value)⟩), (.agg ⟨(hc x)⟩), (.slice pa p.length pc)] w fun e w' => e = .returned (.agg ⟨hc (shaR (ofT cl seq x p))⟩) ∧ Upd [] w w' := by
 have H := Sat.start0 w
 refine calls_fr Tryz.func29 rfl 22 rfl (Nat.le_of_ble_eq_true rfl) ?_
 refine zsl <| zwd fun Kq kq => zdb (kOfR_0 cl seq) H fun b2 w3 H4 => ?_
 refine kq _ _ <| zwd fun Kq kq => zdb (hc x) H4 fun b6 w7 H8 => ?_
 refine kq _ _ <| zwd fun Kq kq => zda (hc hash0) H8 fun b10 w11 H12 => ?_
 refine kq _ _ <| znt <| w_seq <| h_start H12 [restC w (fun _ => False), cellC b2 59 (kOfR_0 cl seq), cellC b6 61 (hc x)] 16 rfl (by kernel_rfl) (fun Hx => (Hx.pk [0, 1, 2])) fun w13 H14 S15 => ?_
 refine hv0 3 S15 10 (pt b2 0) <| hv0 4 S15 11 (.int .i64 (cl)) ?_ (he := fun _ H' => (zl1 (H'.cell 1 rfl rfl)))
 refine hv0 6 S15 13 (pt b2 1) <| hv0 7 S15 14 (.int .i64 (seq)) ?_ (he := fun _ H' => (zl1 (H'.cell 1 rfl rfl)))
 refine hv0 9 S15 16 (.slice (some ⟨b6, 0, none⟩) 32 32) <| hv0 10 S15 17 (.slice pa p.length pc) <| zhd0 0 fun Kq kq => ?_
 refine zdbs 5 1 1 (.int .u8 (0)) [(0, (.int .u8 (99))), (1, (.int .u8 (111))), (2, (.int .u8 (109))), (3, (.int .u8 (109))), (4, (.int .u8 (105))), (5, (.int .u8 (116)))] (kOfR_1) H14 ?_
 intro b17 w18 (H19 : Sat w [restC w (fun _ => False), cellC b2 59 (kOfR_0 cl seq), cellC b6 61 (hc x), cellC b10 61 (hc hash0), rowC 5 1 (.slice (some ⟨b17, 0, none⟩) 6 6) 6 (kOfR_1)] w18)
 have H20 : Sat w [restC w (fun _ => False), cellC b2 59 (kOfR_0 cl seq), cellC b6 61 (hc x), cellC b10 61 (hc hash0), rowC 5 1 (.slice (some ⟨b17, 0, none⟩) 6 6) 6 ([99, 111, 109, 109, 105, 116].flatMap encB)] w18 := H19.cast (by rw [show ((kOfR_1) : List Value) = [99, 111, 109, 109, 105, 116].flatMap encB from rfl])
 have S21 := H20.pk [0, 1, 2]
 refine kq _ _ S21 <| zhd0 1 fun Kq kq => ?_
 refine d_convMark (e := 5) (s := [99, 111, 109, 109, 105, 116]) rfl H20 4 rfl (by kernel_rfl) (by kernel_rfl) rfl ?_
 intro w23 H24
 have S25 := H24.pk [0, 1, 2]
 refine kq _ _ S25 <| zhd0 2 fun Kq kq => ?_
 refine zdc 9 (rRow_any w23 (.slice (some ⟨b17, 0, none⟩) 6 6) ([99, 111, 109, 109, 105, 116]) (ListAt.ofTxt (H24.at 4 rfl)) (by simp)) ?_
 rintro _ w27 ⟨u28, rfl, k29, p30, q31⟩
 have H32 := H24.addU p30 k29 q31
 obtain ⟨a33, c34, rfl⟩ := ownsRow_shape (H32.at 5 rfl)
 refine ⟨_, rfl, ?_⟩
 have S35 := H32.pk [0, 1, 2]
 refine kq _ _ S35 <| zhd0 5 fun Kq kq => ?_
 refine zdc 12 (rInt_any w27 cl (by omega)) ?_
 rintro _ w37 ⟨u38, rfl, k39, p40, q41⟩
 have H42 := H32.addU p40 k39 q41
 obtain ⟨a43, c44, rfl⟩ := ownsRow_shape (H42.at 6 rfl)
 refine ⟨_, rfl, ?_⟩
 have S45 := H42.pk [0, 1, 2]
 refine kq _ _ S45 <| zhd0 8 fun Kq kq => ?_
 refine zdc 15 (rInt_any w37 seq (by omega)) ?_
 rintro _ w47 ⟨u48, rfl, k49, p50, q51⟩
 have H52 := H42.addU p50 k49 q51
 obtain ⟨a53, c54, rfl⟩ := ownsRow_shape (H52.at 7 rfl)
 refine ⟨_, rfl, ?_⟩
 have S55 := H52.pk [0, 1, 2]
 refine kq _ _ S55 <| zhd0 11 fun Kq kq => ?_
 refine zdc 18 (rRow_any w47 (.slice pa p.length pc) p (ListAt.now H52 0 rfl hp) (by omega)) ?_
 rintro _ w57 ⟨u58, rfl, k59, p60, q61⟩
 have H62 := H52.addU p60 k59 q61
 obtain ⟨a63, c64, rfl⟩ := ownsRow_shape (H62.at 8 rfl)
 refine ⟨_, rfl, ?_⟩
 have S65 := H62.pk [0, 1, 2]
 refine kq _ _ S65 <| zhd0 12 fun Kq kq => ?_
 refine zdbs 84 1 24 (.slice none 0 0) [(0, (.slice a33 ((rowB ([99, 111, 109, 109, 105, 116])).length) c34)), (1, (.slice a43 ((intB cl).length) c44)), (2, (.slice a53 ((intB seq).length) c54)), (3, (.slice (some ⟨b6, 0, none⟩) 32 32)), (4, (.slice a63 ((rowB p).length) c64))] (kOfR_3 a33 ((rowB ([99, 111, 109, 109, 105, 116])).length) c34 a43 ((intB cl).length) c44 a53 ((intB seq).length) c54 b6 a63 ((rowB p).length) c64) H62 ?_
 intro b67 w68 H69
 have S70 := H69.pk [0, 1, 2]
 refine kq _ _ S70 <| zhd0 13 fun Kq kq => ?_
 have l72 := rowB_len ([99, 111, 109, 109, 105, 116])
 simp only [List.length_cons, List.length_nil] at l72
 have l73 := intB_len cl
 have l74 := intB_len seq
 have l75 := x.len
 have l76 := rowB_len p
 refine zdc 20 (rJoin_any w68 (.slice (some ⟨b67, 0, none⟩) 5 5) [(.slice a33 ((rowB ([99, 111, 109, 109, 105, 116])).length) c34), (.slice a43 ((intB cl).length) c44), (.slice a53 ((intB seq).length) c54), (.slice (some ⟨b6, 0, none⟩) 32 32), (.slice a63 ((rowB p).length) c64)] [(rowB ([99, 111, 109, 109, 105, 116])), (intB cl), (intB seq), x.l, (rowB p)] (ListAt.row (enc := encW) (sz := 1) (xs := [(.slice a33 ((rowB ([99, 111, 109, 109, 105, 116])).length) c34), (.slice a43 ((intB cl).length) c44), (.slice a53 ((intB seq).length) c54), (.slice (some ⟨b6, 0, none⟩) 32 32), (.slice a63 ((rowB p).length) c64)]) encW_len (by decide) (H69.at 9 rfl)) (Parts.cons (ListAt.row (enc := encB) (sz := 1) encB_len (by decide) (H69.at 5 rfl)) (Parts.cons (ListAt.row (enc := encB) (sz := 1) encB_len (by decide) (H69.at 6 rfl)) (Parts.cons (ListAt.row (enc := encB) (sz := 1) encB_len (by decide) (H69.at 7 rfl)) (Parts.cons (ListAt.ofHash (cell_runT (H69.at 2 rfl) (by kernel_rfl)) (by decide)) (Parts.cons (ListAt.row (enc := encB) (sz := 1) encB_len (by decide) (H69.at 8 rfl)) Parts.nil))))) (by simp only [List.flatten_cons, List.flatten_nil, List.length_append, List.length_nil]; omega) (by simp)) ?_
 rintro _ w77 ⟨u78, rfl, k79, p80, q81⟩
 have H82 := H69.addU p80 k79 q81
 obtain ⟨a83, c84, rfl⟩ := ownsRow_shape (H82.at 10 rfl)
 refine ⟨_, rfl, ?_⟩
 have S85 := H82.pk [0, 1, 2]
 refine kq _ _ S85 <| zhd0 14 fun Kq kq => ?_
 refine zdq 21 (rSum_any w77 a83 c84 ([(rowB ([99, 111, 109, 109, 105, 116])), (intB cl), (intB seq), x.l, (rowB p)].flatten) (ListAt.row (enc := encB) (sz := 1) encB_len (by decide) (H82.at 10 rfl)) (by have q_ := ofT_len cl seq x p; unfold ofT at q_; omega)) H82 ?_
 intro w87 H88
 have S90 := H88.pk [0, 1, 2]
 refine kq _ _ S90 <| zhd0 15 fun Kq kq => ?_
 refine zds1 (hc (shaR ([(rowB ([99, 111, 109, 109, 105, 116])), (intB cl), (intB seq), x.l, (rowB p)].flatten))) H88 3 ?_
 intro w92 H93
 have S95 := H93.pk [0, 1, 2]
 refine kq _ _ S95 <| zhf <| ztn <| w_ret <| end1 rfl (res_cellN (vs := (hc (shaR ([(rowB ([99, 111, 109, 109, 105, 116])), (intB cl), (intB seq), x.l, (rowB p)].flatten)))) rfl (by kernel_rfl) (by kernel_rfl) (Nat.le_of_ble_eq_true (by kernel_rfl)) (H93.at 3 rfl) (by kernel_rfl)) ?_
 exact ⟨rfl, H93.upd 0 rfl [] (fun _ h => h.elim)⟩
def withinV (v n : Int) : Int := if n < 1 then 0 else v % n
theorem within_lim (v n : Int) (h : 1 ≤ n) : 0 ≤ withinV v n ∧ withinV v n < n := by
 unfold withinV; rw [if_neg (by omega)]
 exact ⟨Int.emod_nonneg _ (by omega), Int.emod_lt_of_pos _ (by omega)⟩
structure NmD where
 cl : Int
 sq : Int
deriving DecidableEq
def encNm (x : NmD) : List Value := [.int .i64 x.cl, .int .i64 x.sq]
theorem encNm_len (x : NmD) : (encNm x).length = 2 := rfl
theorem encNm_one (x : NmD) : (encNm x).all (·.oneCell') = true := rfl
def nm0 : NmD := ⟨0, 0⟩
def smallN (x : NmD) : NmD := ⟨withinV x.cl 3, 1 + withinV x.sq 4⟩
structure SpotD where
 i : Int
 cl : Int
 sq : Int
 h : Hash
 t : Int
def encSp (x : SpotD) : List Value := [.int .i64 x.i, .int .i64 x.cl, .int .i64 x.sq] ++ hc x.h ++ [.int .u64 x.t]
theorem encSp_len (x : SpotD) : (encSp x).length = 36 := by simp [encSp, hc_len]
theorem encSp_one (x : SpotD) : (encSp x).all (·.oneCell') = true := by
 simp only [encSp, List.all_append, hc_eq]
 simp [Value.oneCell', byteV]
def spot0 : SpotD := ⟨0, 0, 0, hash0, 0⟩
structure EntD where
 cl : Int
 sq : Int
 h : Hash
 t : Int
def encEn (x : EntD) : List Value := [.int .i64 x.cl, .int .i64 x.sq] ++ hc x.h ++ [.int .u64 x.t]
def ent0 : EntD := ⟨0, 0, hash0, 0⟩
def entV (x : EntD) : Value := .agg ⟨encEn x⟩
def nmV (x : NmD) : Value := .agg ⟨encNm x⟩
def spotAt (i : Nat) : SpotD := ⟨2 * (i : Int), i, 50, shaR (ofT i 50 hash0 [UInt8.ofNat (i : Int).toNat]), 1⟩
def spotsN (n : Nat) : List SpotD := (List.range n).map spotAt
def namesN (n : Nat) : List NmD := (List.range n).map fun (i : Nat) => (⟨(i : Int), 50⟩ : NmD)
theorem spotsN_succ (n : Nat) : spotsN (n + 1) = spotsN n ++ [spotAt n] := by unfold spotsN; rw [List.range_succ, List.map_append]; rfl
theorem namesN_succ (n : Nat) : namesN (n + 1) = namesN n ++ [⟨(n : Int), 50⟩] := by unfold namesN; rw [List.range_succ, List.map_append]; rfl
theorem spotsN_len (n : Nat) : (spotsN n).length = n := by simp [spotsN]
theorem namesN_len (n : Nat) : (namesN n).length = n := by simp [namesN]
theorem take_smallN (P : List NmD) {j : Nat} (h : j < P.length) : (P.take (j + 1)).map smallN = (P.take j).map smallN ++ [smallN (P.getD j nm0)] := by
 rw [List.take_add_one, List.getElem?_eq_getElem h, List.map_append, List.getD_eq_getElem?_getD, List.getElem?_eq_getElem h]; rfl
def rightDn (F : Int) (B : List Signed) (d : DenyD) : Bool := inB F d.r && decide (0 ≤ d.i) && decide (d.sb = d.r) && rightB B d.sb d.sm (denyB d.r d.i)
def tombAt (F : Int) (B : List Signed) (ix : Int) (D : List DenyD) (i : Nat) : Bool := (!decide ((i : Int) > 0) || !decide ((D.getD i deny0).r ≤ (D.getD (i - 1) deny0).r)) && decide ((D.getD i deny0).i = ix) && rightDn F B (D.getD i deny0)
def rightTb (F : Int) (B : List Signed) (ix : Int) (D : List DenyD) : Bool := (List.range D.length).all (tombAt F B ix D) && decide ((D.length : Int) = 2 * F + 1)
def DnOk (d : DenyD) : Prop := d.r ≤ 9223372036854775807 ∧ d.i ≤ 9223372036854775807
end Go.Proofs.YtenihpghfdcpkaaGreat
namespace Go.Proofs.YtenihpghfdcpkaaGreat
end Go.Proofs.YtenihpghfdcpkaaGreat
namespace Go.Proofs.YtenihpghfdcpkaaGreat
open Go.RowKit
def Hash.at (a : Hash) (i : Nat) : UInt8 := a.l.getD i 0
def LessH (a b : Hash) : Prop := ∃ i, i < 32 ∧ a.at i < b.at i ∧ ∀ j, j < i → a.at j = b.at j
theorem LessH.trans {a b c : Hash} (h : LessH a b) (k : LessH b c) : LessH a c := by
 obtain ⟨i, hi, h1, h2⟩ := h
 obtain ⟨j, hj, k1, k2⟩ := k
 rcases Nat.lt_trichotomy i j with e | e | e
 ·exact ⟨i, hi, by rw [← k2 i e]; exact h1, fun q hq => (h2 q hq).trans (k2 q (by omega))⟩
 ·subst e; exact ⟨i, hi, UInt8.lt_trans h1 k1, fun q hq => (h2 q hq).trans (k2 q hq)⟩
 ·exact ⟨j, hj, by rw [h2 j e]; exact k1, fun q hq => (h2 q (by omega)).trans (k2 q hq)⟩
section
variable {P : Program} {w : World}
end
section
variable {P : Program} {n : Nat} {f : Nat → Value} {w : World}
end
end Go.Proofs.YtenihpghfdcpkaaGreat
namespace Go.Proofs.YtenihpghfdcpkaaGreat
open Go.RowKit Go.Sort
def sgn3 (a b : Int) : Int := if a < b then -1 else if a > b then 1 else 0
theorem nani64_any (a : Int) (W : World) : Calls Tryz.prog 120 #[.int .i64 a] W fun e w' => e = .returned (.bool false) ∧ w' = W := by
 go_enter Tryz.func120, Tryz.ntmps120
 go_wp2
 go_ret
 exact ⟨by simp, rfl⟩
theorem cmpi64_any (a b : Int) (W : World) : Calls Tryz.prog 92 #[.int .i64 a, .int .i64 b] W fun e w' => e = .returned (.int .i64 (sgn3 a b)) ∧ w' = W := by
 have hn := fun a W => nani64_any a W
 go_enter Tryz.func92, Tryz.ntmps92
 go_wp2_with (go_at_call 120; refine (hn _ _).mono ?_; rintro e w' ⟨rfl, rfl⟩)
 all_goals (go_ret; exact ⟨by unfold sgn3; split <;> first | rfl | (split <;> first | rfl | omega) | omega, rfl⟩)
end Go.Proofs.YtenihpghfdcpkaaGreat
namespace Go.Proofs.YtenihpghfdcpkaaGreat
open Go.RowKit
def Gr (w w' : World) : Prop := ∃ q os', w' = Sort.grow (w.drewN q) os'
theorem Gr.refl (w : World) : Gr w w := ⟨0, #[], by simp [Sort.grow, World.drewN]⟩
theorem Gr.alloc (w : World) (o : Obj) : Gr w (w.alloc o) := ⟨0, #[o], by rw [Sort.alloc_eq_grow]; rfl⟩
theorem Gr.drew (w : World) : Gr w w.drew := ⟨1, #[], by rw [Sort.grow_empty]; rfl⟩
theorem Gr.trans {a b c : World} (h : Gr a b) (k : Gr b c) : Gr a c := by
 obtain ⟨q, os, rfl⟩ := h
 obtain ⟨q2, os2, rfl⟩ := k
 exact ⟨q + q2, os ++ os2, by simp [Sort.grow, World.drewN, Array.append_assoc, Nat.add_assoc]⟩
section
variable {P : Program} {ops : Array Oper} {n : Nat} {f : Nat → Value} {w w0 : World} {dst : Option Tmp} {ty : TypeId} {pos : String} {aft : Array Edge} {gd : Option (Nat × Bool)} {K : Act → World → Prop} {Q : Exit → Act → World → Prop} {G : List Ck}
theorem d_boxG {T : TypeId} {x : Operand} {v : Value} {vs : List Value} {d : Nat} (hd : dst = some d) (H : Sat w0 G w) (hx : ev n f x = v) (hvs : v.cells = ⟨vs⟩)
  (k : ∀ b w', Sat w0 (G ++ [cellC b T vs]) w' → Gr w w' → K (fr n (upd f d (.pointer (some ⟨b, 0, none⟩)))) w') : WO P ⟨dst, .box T x, ty, pos, aft, gd⟩ K Q n f w := by
 refine d_val hd (e_box hx) (k _ _ ?_ (Gr.alloc _ _))
 rw [hvs]
 exact H.add ⟨rfl, rfl, rfl, by simp⟩ (fun b hb => Below.heap_alloc w _ b hb) (heap_alloc_at w _) (fun b hb => Nat.le_of_eq hb.symm)
theorem h_startG {id : Nat} {l : List Oper} (H : Sat w0 G w) (Gs : List Ck) (m : Nat) (hl : l.length = m) (hm : P.follows .mixedOrders = true) (hs : Sat w0 G w.drew → Sat w0 Gs w.drew) (k : ∀ w1, Sat w0 G w1 → Sat w0 Gs w1 → Gr w w1 → WH P l.toArray Q (Sat w0 Gs) m (Array.replicate m false) n f w1) :
  WC P (Code.region id l.toArray true) Q n f w := by
 subst hl
 exact ⟨wp_region_held (S := Sat w0 Gs) hm (by simpa using (k w.drew H.drew (hs H.drew) (Gr.drew _)).h)⟩
end
end Go.Proofs.YtenihpghfdcpkaaGreat
namespace Go.Proofs.YtenihpghfdcpkaaGreat
open Go.RowKit Go.Shelf Go.Sort
theorem ins0_any (p : Option Addr) (cap : Nat) (fv : Value) (w : World) : Calls Tryz.prog 128 #[.slice p 0 cap, .int .i64 0, .int .i64 0, fv] w fun e w' => e = .returned (.tuple #[]) ∧ w' = w := by
 go_enter Tryz.func128, Tryz.ntmps128
 go_wp2
 refine wp_loop_rounds 1 ?_
 rw [rounds_succ]
 go_wp2
 go_end0
 exact ⟨rfl, rfl⟩
theorem pdq0_any (p : Option Addr) (cap : Nat) (lim : Int) (fv : Value) (w : World) : Calls Tryz.prog 101 #[.slice p 0 cap, .int .i64 0, .int .i64 0, .int .i64 lim, fv] w fun e w' => e = .returned (.tuple #[]) ∧ w' = w := by
 have hi := fun W => ins0_any p cap fv W
 go_enter Tryz.func101, Tryz.ntmps101
 go_wp2
 refine wp_loop_rounds 1 ?_
 rw [rounds_succ]
 go_wp2_with (go_at_call 128; refine (hi _).mono ?_; rintro e w' ⟨rfl, rfl⟩)
 (try simp only [Exit.inBlock, Exit.then]); refine bodyPost_ret (results_none rfl _ _ _) rfl ?_
 exact ⟨rfl, rfl⟩
theorem sort0_any (p : Option Addr) (cap : Nat) (fv : Value) (w : World) : Calls Tryz.prog 59 #[.slice p 0 cap, fv] w fun e w' => e = .returned (.tuple #[]) ∧ w' = w := by
 have hp := fun lim W => pdq0_any p cap lim fv W
 have hl : ∀ W, Calls Tryz.prog 102 #[.int .u64 0] W fun e w' => e = .returned (.int .i64 (Lib.bitLen 0 : Nat)) ∧ w' = W := fun W => Any.bits_Len bitsL 0 W (by omega) (by omega)
 go_enter Tryz.func59, Tryz.ntmps59
 go_wp2_with (first | (go_at_call 102; refine (hl _).mono ?_; rintro e w' ⟨rfl, rfl⟩) | (go_at_call 101; refine (hp _ _).mono ?_; rintro e w' ⟨rfl, rfl⟩))
 go_end0
 exact ⟨rfl, rfl⟩
instance : Inhabited EntD := ⟨ent0⟩
def ltEn (x y : EntD) : Prop := x.t < y.t ∨ (x.t = y.t ∧ (x.cl < y.cl ∨ (x.cl = y.cl ∧ x.sq < y.sq)))
instance (x y : EntD) : Decidable (ltEn x y) := by unfold ltEn; exact inferInstance
theorem sgn3_cases (a b : Int) : (a < b ∧ sgn3 a b = -1) ∨ (a = b ∧ sgn3 a b = 0) ∨ (a > b ∧ sgn3 a b = 1) := by
 unfold sgn3
 rcases Int.lt_trichotomy a b with h | h | h
 ·exact .inl ⟨h, if_pos h⟩
 ·exact .inr (.inl ⟨h, by rw [if_neg (by omega), if_neg (by omega)]⟩)
 ·exact .inr (.inr ⟨h, by rw [if_neg (by omega), if_pos h]⟩)
theorem sorted_block {α : Type} [Inhabited α] (enc : α → List Value) (k : Nat) (hk : ∀ x, (enc x).length = k) (k0 : 0 < k) (d : Array α) (cur : Array Value) (h : d.size * k ≤ cur.size) : (putCells id 0 (flatK enc k d) cur).size = cur.size ∧ (putCells id 0 (flatK enc k d) cur).toList.take (d.size * k) = d.toList.flatMap enc := by
 refine ⟨by simp [putCells], ?_⟩
 refine List.ext_getElem? fun t => ?_
 rw [List.getElem?_take]
 split
 ·rename_i ht
  have hj : t / k < d.size := (Nat.div_lt_iff_lt_mul k0).2 ht
  have hm : t % k < k := Nat.mod_lt _ k0
  have e : t = t / k * k + t % k := by rw [Nat.mul_comm]; exact (Nat.div_add_mod t k).symm
  have hr : (d.toList.flatMap enc)[t]? = (enc d[t / k]!)[t % k]? := by
   conv => lhs; rw [e]
   exact flat_get enc k hk d.toList (t / k) (t % k) d[t / k]! (by rw [getElem!_pos d _ hj]; simp [hj]) hm
  rw [hr, Array.getElem?_toList]
  have ht' : t < (flatK enc k d).size := by rw [size_flatK]; exact ht
  have hl : (putCells id 0 (flatK enc k d) cur)[t]? = some (flatK enc k d)[t]! := by
   unfold putCells
   rw [Array.getElem?_mapIdx, Array.getElem?_eq_getElem (by omega)]
   simp only [Option.map_some]
   rw [if_pos ⟨Nat.zero_le _, by omega⟩]; rfl
  rw [hl, get_flatK enc k d t ht, getElem!_pos (enc d[t / k]!) _ (by rw [hk]; exact hm), List.getElem?_eq_getElem (by rw [hk]; exact hm)]
 ·rename_i ht
  rw [List.getElem?_eq_none]
  rw [flat_len enc k hk]; simp; omega
end Go.Proofs.YtenihpghfdcpkaaGreat
namespace Go.Proofs.YtenihpghfdcpkaaGreat
open Go.RowKit
section
variable {κ ν : Type} [DecidableEq κ] {encK : κ → Value} {encV : ν → Value} {P : Program} {k : TypeId} {w : World} {b : Nat} {l : List (κ × ν)}
end
section
variable {P : Program} {Q : Exit → Act → World → Prop} {n : Nat} {f : Nat → Value} {w0 w : World} {G : List Ck} {dst : Option Tmp} {ty : TypeId} {pos : String} {aft : Array Edge} {gd : Option (Nat × Bool)} {K' : Act → World → Prop}
end
def SmallN (x : NmD) : Prop := (0 ≤ x.cl ∧ x.cl < 3) ∧ 1 ≤ x.sq ∧ x.sq ≤ 4
def CeSm (c : CeR) : Prop := SmallN ⟨c.x.cl, c.x.seq⟩ ∧ c.S.length ≤ 12 ∧ StsOk c.S
def nmOf (e : EntD) : NmD := ⟨e.cl, e.sq⟩
abbrev EMap := List (NmD × EntD)
section
variable {last tm : Int} {lg : NmD → Bool} {M : EMap} {e : EntD} {L : List CeR} {c : CeR}
structure EOk (M : EMap) : Prop where
 nd : (M.map (·.1)).Nodup
 nm : ∀ x ∈ M, x.1 = nmOf x.2
 sm : ∀ x ∈ M, SmallN x.1
end
section
variable {κ ν : Type} [DecidableEq κ] {l : List (κ × ν)} {a : κ} {v : ν}
theorem mem_putE {y : κ × ν} (h : y ∈ putM l a v) : y = (a, v) ∨ y ∈ l := by
 unfold putM at h
 split at h
 ·obtain ⟨z, hz, e⟩ := List.mem_map.1 h
  split at e
  ·exact .inl e.symm
  ·exact .inr (e ▸ hz)
 ·rcases List.mem_append.1 h with h | h
  ·exact .inr h
  ·exact .inl (List.mem_singleton.1 h)
theorem keys_putE : (putM l a v).map (·.1) = if a ∈ l.map (·.1) then l.map (·.1) else l.map (·.1) ++ [a] := by
 unfold putM
 split
 ·rw [List.map_map]
  refine List.map_congr_left fun y _ => ?_
  show (if y.1 = a then (a, v) else y).1 = y.1
  split
  ·rename_i e; exact e.symm
  ·rfl
 ·simp
end
theorem nodup_below : ∀ (n : Nat) (l : List Nat), l.Nodup → (∀ x ∈ l, x < n) → l.length ≤ n
 | 0, l, _, h => by
  cases l with
  | nil => simp
  | cons x l => exact absurd (h x (by simp)) (Nat.not_lt_zero _)
 | n + 1, l, hn, h => by
  have ih := nodup_below n (l.erase n) (hn.erase n) fun x hx => by
   have h1 := (List.Nodup.mem_erase_iff hn).1 hx
   have h2 := h x h1.2
   have := h1.1
   omega
  by_cases hm : n ∈ l
  ·have := List.length_erase_of_mem hm; omega
  ·rw [List.erase_of_not_mem hm] at ih; omega
section
variable {last tm : Int} {lg : NmD → Bool} {M : EMap} {e : EntD} {L : List CeR} {c : CeR}
theorem EOk.nil : EOk [] := ⟨List.nodup_nil, by simp, by simp⟩
theorem EOk.put (h : EOk M) (hs : SmallN (nmOf e)) : EOk (putM M (nmOf e) e) := by
 refine ⟨?_, fun x hx => ?_, fun x hx => ?_⟩
 ·rw [keys_putE]
  split
  ·exact h.nd
  ·rename_i q
   rw [List.nodup_append]
   exact ⟨h.nd, by simp, fun a ha b hb e => by rw [List.mem_singleton.1 hb] at e; exact q (e ▸ ha)⟩
 ·rcases mem_putE hx with rfl | hx
  ·rfl
  ·exact h.nm x hx
 ·rcases mem_putE hx with rfl | hx
  ·exact hs
  ·exact h.sm x hx
theorem EOk.len (h : EOk M) : M.length ≤ 12 := by
 have hm := nodup_below 12 ((M.map (·.1)).map fun x => (x.cl * 4 + (x.sq - 1)).toNat) ?_ ?_
 ·simpa using hm
 ·rw [List.Nodup, List.pairwise_map]
  refine List.Pairwise.imp_of_mem ?_ h.nd
  intro a b ha hb hne e
  obtain ⟨x, hx, rfl⟩ := List.mem_map.1 ha
  obtain ⟨y, hy, rfl⟩ := List.mem_map.1 hb
  have hx' := h.sm x hx
  have hy' := h.sm y hy
  unfold SmallN at hx' hy'
  apply hne
  have h1 : x.1.cl = y.1.cl := by omega
  have h2 : x.1.sq = y.1.sq := by omega
  cases hx1 : x.1; cases hy1 : y.1
  simp_all
 ·intro z hz
  obtain ⟨a, ha, rfl⟩ := List.mem_map.1 hz
  obtain ⟨x, hx, rfl⟩ := List.mem_map.1 ha
  have := h.sm x hx
  unfold SmallN at this
  omega
theorem EOk.inj (h : EOk M) : ∀ a ∈ M.map (·.2), ∀ b ∈ M.map (·.2), nmOf a = nmOf b → a = b := fun a ha b hb e => by
 obtain ⟨x, hx, rfl⟩ := List.mem_map.1 ha
 obtain ⟨y, hy, rfl⟩ := List.mem_map.1 hb
 have e2 : x.1 = y.1 := by rw [h.nm x hx, h.nm y hy, e]
 obtain ⟨i, hi, hxi⟩ := List.mem_iff_getElem.1 hx
 obtain ⟨j, hj, hyj⟩ := List.mem_iff_getElem.1 hy
 have key : i = j := by
  have hp := List.pairwise_iff_getElem.1 h.nd
  rcases Nat.lt_trichotomy i j with q | q | q
  ·exact absurd (by rw [List.getElem_map, List.getElem_map, hxi, hyj, e2]) (hp i j (by simpa using hi) (by simpa using hj) q)
  ·exact q
  ·exact absurd (by rw [List.getElem_map, List.getElem_map, hxi, hyj, e2]) (hp j i (by simpa using hj) (by simpa using hi) q)
 subst key
 rw [← hxi, ← hyj]
end
section
variable {last tm : Int} {lg : NmD → Bool} {M M' : EMap} {A C : List CeR} {P : List PrR} {i k : Nat} {w : World}
theorem take_succ_C (h : k < C.length) : C.take (k + 1) = C.take k ++ [C.getD k ce0] := by
 rw [List.take_add_one, List.getElem?_eq_getElem h, List.getD_eq_getElem?_getD, List.getElem?_eq_getElem h]; rfl
theorem getD_memC (h : k < C.length) : C.getD k ce0 ∈ C := by
 rw [List.getD_eq_getElem?_getD, List.getElem?_eq_getElem h]; exact List.getElem_mem h
theorem getD_memP (h : i < P.length) : P.getD i pr0 ∈ P := by
 rw [List.getD_eq_getElem?_getD, List.getElem?_eq_getElem h]; exact List.getElem_mem h
def PSm (P : List PrR) : Prop := ∀ p ∈ P, ∀ c ∈ p.C, CeSm c
theorem PSm.at (h : PSm P) (hi : i < P.length) (hk : k < (P.getD i pr0).C.length) : CeSm ((P.getD i pr0).C.getD k ce0) := h _ (getD_memP hi) _ (getD_memC hk)
theorem PSm.all (h : PSm P) : ∀ c ∈ P.flatMap (·.C), CeSm c := fun c hc => by
 obtain ⟨p, hp, hc⟩ := List.mem_flatMap.1 hc
 exact h p hp c hc
variable {LM : List (NmD × Bool)} {lg : NmD → Bool} {c : CeR} {v : EntD}
end
end Go.Proofs.YtenihpghfdcpkaaGreat
