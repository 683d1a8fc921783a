/- WHAT IS PROVED: contracts and plain laws of OfR, BatD, Small, Less, CmpE, Grow, CmpF, Sort12N. Conditions: stated with each. -/
import Derived.Sort.Grow
import Derived.Deep.Draws
import Derived.Test.YtenihpghfdcpkaaGreatPA04
import Derived.Test.YtenihpghfdcpkaaGreatPA05
import Derived.Test.YtenihpghfdcpkaaGreatPA07
import Derived.Test.YtenihpghfdcpkaaGreatPA10
import Derived.Test.YtenihpghfdcpkaaGreatPA11
import Derived.Test.YtenihpghfdcpkaaGreatPA13
import Derived.Test.YtenihpghfdcpkaaGreatPA14
import Derived.Test.YtenihpghfdcpkaaGreatPA15
set_option maxHeartbeats 4000000
set_option maxRecDepth 100000
namespace Go.Proofs.YtenihpghfdcpkaaGreat
open Go.RowKit
abbrev ZeK (p0 : Int) (p1 : Int) : List Value := ([(.int .i64 p0), (.int .i64 p1)] : List Value)
abbrev ZeT : List Value := ([(.int .u8 (99)), (.int .u8 (111)), (.int .u8 (109)), (.int .u8 (109)), (.int .u8 (105)), (.int .u8 (116))] : List Value)
abbrev kOfR_3 (p0 : Option Addr) (p1 : Nat) (p2 : Nat) (p3 : Option Addr) (p4 : Nat) (p5 : Nat) (p6 : Option Addr) (p7 : Nat) (p8 : Nat) (p9 : Nat) (p10 : Option Addr) (p11 : Nat) (p12 : Nat) : List Value := ([(.slice p0 p1 p2), (.slice p3 p4 p5), (.slice p6 p7 p8), (.slice (some ⟨p9, 0, none⟩) 32 32), (.slice p10 p11 p12)] : List Value)
def ofT (cl seq : Int) (x : Hash) (p : List UInt8) : List UInt8 := [ZK [99, 111, 109, 109, 105, 116], Zi cl, Zi seq, x.l, ZK p].flatten
theorem ZcE (cl seq : Int) (x : Hash) (p : List UInt8) : (ofT cl seq x p).length ≤ p.length + 100 := by
 have h1 := ZM cl; have h2 := ZM seq; have h3 := x.len; have h4 := Z0D p; have h5 := Z0D [99, 111, 109, 109, 105, 116]
 simp only [List.length_cons, List.length_nil] at h5
 simp only [ofT, List.flatten_cons, List.flatten_nil, List.length_append, List.length_nil]; omega
theorem Z8g (cl seq : Int) (x : Hash) (p : List UInt8) : ofT cl seq x p = ([] ++ ZK [99, 111, 109, 109, 105, 116] ++ Zi cl ++ Zi seq ++ x.l ++ ZK p) := by
 simp only [ofT, List.flatten_cons, List.flatten_nil, List.append_nil, List.nil_append, List.append_assoc]
theorem Za7 (cl seq : Int) (x : Hash) (p : List UInt8) (h : p.length ≤ 1000) : ([] ++ ZK [99, 111, 109, 109, 105, 116] ++ Zi cl ++ Zi seq ++ x.l ++ ZK p).length ≤ 1000000 := by
 have := ZcE cl seq x p
 rw [Z8g] at this; omega
theorem Z9Z (w : World) (cl seq : Int) (x : Hash) (pa : Option Addr) (pc : Nat) (p : List UInt8) (hp : ListAt Zy 1 w (.slice pa p.length pc) p) (hcl : cl ≤ 9223372036854775807) (hsq : seq ≤ 9223372036854775807) (hlp : p.length ≤ 1000) :
  Calls Tryz.prog 29 #[(.agg ⟨([(.int .i64 (cl)), (.int .i64 (seq))] : List Value)⟩), (.agg ⟨(hc x)⟩), (.slice pa p.length pc)] w fun e w' => e = .returned (.agg ⟨hc (Z0l (ofT cl seq x p))⟩) ∧ Upd [] w w' := by
 have H := Sat.start0 w
 refine Z8 Tryz.func29 rfl 22 rfl kn ?_
 refine zsl <| zy <| zdb (ZeK cl seq) H fun b2 w3 H4 => ?_
 refine kk <| zy <| zdb (hc x) H4 fun b6 w7 H8 => ?_
 refine kk <| zy <| zda (hc Zn) H8 fun b10 w11 H12 => ?_
 refine kk <| znt <| Z5 <| Z08 H12 [Z3 w (fun _ => False), Z0 b2 59 (ZeK cl seq), Z0 b6 61 (hc x)] 16 rfl kr (fun Hx => (Hx.pk [0, 1, 2])) fun w13 H14 S15 => ?_
 refine hv0 3 S15 10 (pt b2 0) <| hv0 4 S15 11 (vi cl) ?_ (he := fun _ H' => (zl1 (H'.cell 1 rfl rfl)))
 refine hv0 6 S15 13 (pt b2 1) <| hv0 7 S15 14 (vi seq) ?_ (he := fun _ H' => (zl1 (H'.cell 1 rfl rfl)))
 refine hv0 9 S15 16 (.slice (some ⟨b6, 0, none⟩) 32 32) <| hv0 10 S15 17 (.slice pa p.length pc) <| zhy 0 ?_
 refine Z2w 5 1 1 (.int .u8 (0)) [(0, (.int .u8 (99))), (1, (.int .u8 (111))), (2, (.int .u8 (109))), (3, (.int .u8 (109))), (4, (.int .u8 (105))), (5, (.int .u8 (116)))] (ZeT) H14 ?_
 intro b17 w18 H19
 have H20 := H19.ct 4 rfl (Zc 5 1 (.slice (some ⟨b17, 0, none⟩) 6 6) 6 ([99, 111, 109, 109, 105, 116].flatMap Zy)) (by rw [show ((ZeT) : List Value) = [99, 111, 109, 109, 105, 116].flatMap Zy from rfl])
 have S21 := H20.pk [0, 1, 2]
 refine kh S21 <| zhy 1 ?_
 refine Z1W (e := 5) (s := [99, 111, 109, 109, 105, 116]) rfl H20 4 rfl kr kr rfl ?_
 intro w23 H24
 have S25 := H24.pk [0, 1, 2]
 refine kh S25 <| zhy 2 ?_
 refine zdc 9 (Z4d w23 (.slice (some ⟨b17, 0, none⟩) 6 6) ([99, 111, 109, 109, 105, 116]) (ListAt.ofTxt (H24.at 4 rfl)) (by simp)) ?_
 rintro _ w27 ⟨u28, rfl, k29, p30, q31⟩
 have H32 := H24.addU p30 k29 q31
 obtain ⟨a33, c34, rfl⟩ := Z2 (H32.at 5 rfl)
 refine ⟨_, rfl, ?_⟩
 have S35 := H32.pk [0, 1, 2]
 refine kh S35 <| zhy 5 ?_
 refine zdc 12 (Z0Q w27 cl om) ?_
 rintro _ w37 ⟨u38, rfl, k39, p40, q41⟩
 have H42 := H32.addU p40 k39 q41
 obtain ⟨a43, c44, rfl⟩ := Z2 (H42.at 6 rfl)
 refine ⟨_, rfl, ?_⟩
 have S45 := H42.pk [0, 1, 2]
 refine kh S45 <| zhy 8 ?_
 refine zdc 15 (Z0Q w37 seq om) ?_
 rintro _ w47 ⟨u48, rfl, k49, p50, q51⟩
 have H52 := H42.addU p50 k49 q51
 obtain ⟨a53, c54, rfl⟩ := Z2 (H52.at 7 rfl)
 refine ⟨_, rfl, ?_⟩
 have S55 := H52.pk [0, 1, 2]
 refine kh S55 <| zhy 11 ?_
 refine zdc 18 (Z4d w47 (.slice pa p.length pc) p (ListAt.now H52 0 rfl hp) om) ?_
 rintro _ w57 ⟨u58, rfl, k59, p60, q61⟩
 have H62 := H52.addU p60 k59 q61
 obtain ⟨a63, c64, rfl⟩ := Z2 (H62.at 8 rfl)
 refine ⟨_, rfl, ?_⟩
 have S65 := H62.pk [0, 1, 2]
 refine kh S65 <| zhy 12 ?_
 refine Z2w 84 1 24 (.slice none 0 0) [(0, (.slice a33 ((ZK ([99, 111, 109, 109, 105, 116])).length) c34)), (1, (.slice a43 ((Zi cl).length) c44)), (2, (.slice a53 ((Zi seq).length) c54)), (3, (.slice (some ⟨b6, 0, none⟩) 32 32)), (4, (.slice a63 ((ZK p).length) c64))] (kOfR_3 a33 ((ZK ([99, 111, 109, 109, 105, 116])).length) c34 a43 ((Zi cl).length) c44 a53 ((Zi seq).length) c54 b6 a63 ((ZK p).length) c64) H62 ?_
 intro b67 w68 H69
 have S70 := H69.pk [0, 1, 2]
 refine kh S70 <| zhy 13 ?_
 have l72 := Z0D ([99, 111, 109, 109, 105, 116])
 simp only [List.length_cons, List.length_nil] at l72
 have l73 := ZM cl
 have l74 := ZM seq
 have l75 := x.len
 have l76 := Z0D p
 refine zdc 20 (Z1c w68 (.slice (some ⟨b67, 0, none⟩) 5 5) [(.slice a33 ((ZK ([99, 111, 109, 109, 105, 116])).length) c34), (.slice a43 ((Zi cl).length) c44), (.slice a53 ((Zi seq).length) c54), (.slice (some ⟨b6, 0, none⟩) 32 32), (.slice a63 ((ZK p).length) c64)] [(ZK ([99, 111, 109, 109, 105, 116])), (Zi cl), (Zi seq), x.l, (ZK p)] (ListAt.row (enc := Z9s) (sz := 1) (xs := [(.slice a33 ((ZK ([99, 111, 109, 109, 105, 116])).length) c34), (.slice a43 ((Zi cl).length) c44), (.slice a53 ((Zi seq).length) c54), (.slice (some ⟨b6, 0, none⟩) 32 32), (.slice a63 ((ZK p).length) c64)]) Z1F (by decide) (H69.at 9 rfl)) (Parts.cons (ListAt.row (enc := Zy) (sz := 1) Zk (by decide) (H69.at 5 rfl)) (Parts.cons (ListAt.row (enc := Zy) (sz := 1) Zk (by decide) (H69.at 6 rfl)) (Parts.cons (ListAt.row (enc := Zy) (sz := 1) Zk (by decide) (H69.at 7 rfl)) (Parts.cons (ListAt.ofHash (Z3U (H69.at 2 rfl) kr) (by decide)) (Parts.cons (ListAt.row (enc := Zy) (sz := 1) Zk (by decide) (H69.at 8 rfl)) Parts.nil))))) (by simp only [List.flatten_cons, List.flatten_nil, List.length_append, List.length_nil]; omega) (by simp)) ?_
 rintro _ w77 ⟨u78, rfl, k79, p80, q81⟩
 have H82 := H69.addU p80 k79 q81
 obtain ⟨a83, c84, rfl⟩ := Z2 (H82.at 10 rfl)
 refine ⟨_, rfl, ?_⟩
 have S85 := H82.pk [0, 1, 2]
 refine kh S85 <| zhy 14 ?_
 refine zdq 21 (Zen w77 a83 c84 ([(ZK ([99, 111, 109, 109, 105, 116])), (Zi cl), (Zi seq), x.l, (ZK p)].flatten) (ListAt.row (enc := Zy) (sz := 1) Zk (by decide) (H82.at 10 rfl)) (by have q_ := ZcE cl seq x p; unfold ofT at q_; omega)) H82 ?_
 intro w87 H88
 have S90 := H88.pk [0, 1, 2]
 refine kh S90 <| zhy 15 ?_
 refine Z1z (hc (Z0l ([(ZK ([99, 111, 109, 109, 105, 116])), (Zi cl), (Zi seq), x.l, (ZK p)].flatten))) H88 3 ?_
 intro w92 H93
 have S95 := H93.pk [0, 1, 2]
 refine kh S95 <| zhf <| ztn <| Zq <| Z66 rfl (ZL (vs := (hc (Z0l ([(ZK ([99, 111, 109, 109, 105, 116])), (Zi cl), (Zi seq), x.l, (ZK p)].flatten)))) rfl kr kr kn (H93.at 3 rfl) kr) ?_
 exact ⟨rfl, H93.upd 0 rfl [] ne⟩
def Z1 (v n : Int) : Int := if n < 1 then 0 else v % n
theorem Z1V (v n : Int) (h : 1 ≤ n) : 0 ≤ Z1 v n ∧ Z1 v n < n := by
 unfold Z1; rw [if_neg (by omega)]
 exact ⟨Int.emod_nonneg _ (by omega), Int.emod_lt_of_pos _ (by omega)⟩
structure NmD where
 cl : Int
 sq : Int
deriving DecidableEq
def Z2b (x : NmD) : List Value := [.int .i64 x.cl, .int .i64 x.sq]
theorem Z6s (x : NmD) : (Z2b x).length = 2 := rfl
theorem Z98 (x : NmD) : (Z2b x).all (·.oneCell') = true := rfl
def nm0 : NmD := ⟨0, 0⟩
def Z22 (x : NmD) : NmD := ⟨Z1 x.cl 3, 1 + Z1 x.sq 4⟩
structure Z2l where
 i : Int
 cl : Int
 sq : Int
 h : Hash
 t : Int
def Z3Z (x : Z2l) : List Value := [.int .i64 x.i, .int .i64 x.cl, .int .i64 x.sq] ++ hc x.h ++ [.int .u64 x.t]
theorem Z8X (x : Z2l) : (Z3Z x).length = 36 := by simp [Z3Z, Zaz]
theorem Zcy (x : Z2l) : (Z3Z x).all (·.oneCell') = true := by
 simp only [Z3Z, List.all_append, Z8r]
 simp [Value.oneCell', Z4a]
def Z4y : Z2l := ⟨0, 0, 0, Zn, 0⟩
structure Z1H where
 cl : Int
 sq : Int
 h : Hash
 t : Int
def Z1q (x : Z1H) : List Value := [.int .i64 x.cl, .int .i64 x.sq] ++ hc x.h ++ [.int .u64 x.t]
theorem Z1w (x : Z1H) : (Z1q x).length = 35 := by simp [Z1q, Zaz]
theorem Z5N (x : Z1H) : (Z1q x).all (·.oneCell') = true := by
 simp only [Z1q, List.all_append, Z8r]
 simp [Value.oneCell', Z4a]
def Z2L : Z1H := ⟨0, 0, Zn, 0⟩
def Z3N (x : Z1H) : Value := .agg ⟨Z1q x⟩
def nmV (x : NmD) : Value := .agg ⟨Z2b x⟩
def Z2S (i : Nat) : Z2l := ⟨2 * (i : Int), i, 50, Z0l (ofT i 50 Zn [UInt8.ofNat (i : Int).toNat]), 1⟩
def Z03 (n : Nat) : List Z2l := (List.range n).map Z2S
def Z1G (n : Nat) : List NmD := (List.range n).map fun (i : Nat) => (⟨(i : Int), 50⟩ : NmD)
theorem Z9F (n : Nat) : Z03 (n + 1) = Z03 n ++ [Z2S n] := by unfold Z03; rw [List.range_succ, List.map_append]; rfl
theorem Z9y (n : Nat) : Z1G (n + 1) = Z1G n ++ [⟨(n : Int), 50⟩] := by unfold Z1G; rw [List.range_succ, List.map_append]; rfl
theorem Zby (n : Nat) : (Z03 n).length = n := by simp [Z03]
theorem Z5R (n : Nat) : (Z1G n).length = n := by simp [Z1G]
theorem Z9U (P : List NmD) {j : Nat} (h : j < P.length) : (P.take (j + 1)).map Z22 = (P.take j).map Z22 ++ [Z22 (P.getD j nm0)] := by
 rw [List.take_add_one, List.getElem?_eq_getElem h, List.map_append, List.getD_eq_getElem?_getD, List.getElem?_eq_getElem h]; rfl
def Z1m (F : Int) (B : List Signed) (d : Z1d) : Bool := inB F d.r && decide (0 ≤ d.i) && decide (d.sb = d.r) && Z0M B d.sb d.sm (Z02 d.r d.i)
def Z2y (F : Int) (B : List Signed) (ix : Int) (D : List Z1d) (i : Nat) : Bool := (!decide ((i : Int) > 0) || !decide ((D.getD i Z16).r ≤ (D.getD (i - 1) Z16).r)) && decide ((D.getD i Z16).i = ix) && Z1m F B (D.getD i Z16)
def Z1Q (F : Int) (B : List Signed) (ix : Int) (D : List Z1d) : Bool := (List.range D.length).all (Z2y F B ix D) && decide ((D.length : Int) = 2 * F + 1)
def ZfD (d : Z1d) : Prop := d.r ≤ 9223372036854775807 ∧ d.i ≤ 9223372036854775807
end Go.Proofs.YtenihpghfdcpkaaGreat
namespace Go.Proofs.YtenihpghfdcpkaaGreat
end Go.Proofs.YtenihpghfdcpkaaGreat
namespace Go.Proofs.YtenihpghfdcpkaaGreat
open Go.RowKit
def Hash.at (a : Hash) (i : Nat) : UInt8 := a.l.getD i 0
def LessH (a b : Hash) : Prop := ∃ i, i < 32 ∧ a.at i < b.at i ∧ ∀ j, j < i → a.at j = b.at j
def Zba (a b : Hash) : Bool := decide (Extern.BytealgCompare.cmp ⟨a.l.toArray⟩ ⟨b.l.toArray⟩ < 0)
theorem LessH.trans {a b c : Hash} (h : LessH a b) (k : LessH b c) : LessH a c := by
 obtain ⟨i, hi, h1, h2⟩ := h
 obtain ⟨j, hj, k1, k2⟩ := k
 rcases Nat.lt_trichotomy i j with e | e | e
 ·exact ⟨i, hi, by rw [← k2 i e]; exact h1, fun q hq => (h2 q hq).trans (k2 q (by omega))⟩
 ·subst e; exact ⟨i, hi, UInt8.lt_trans h1 k1, fun q hq => (h2 q hq).trans (k2 q hq)⟩
 ·exact ⟨j, hj, by rw [h2 j e]; exact k1, fun q hq => (h2 q (by omega)).trans (k2 q hq)⟩
section
variable {P : Program} {w : World}
theorem Z40 (b : Nat) : ∀ (l : List UInt8) (o : Nat) (acc : ByteArray), (∀ i, i < l.length → w.cell? ⟨b, o + i, none⟩ = some (Z4a (l.getD i 0))) → (Extern.Bytes.loadBytes ⟨b, o, none⟩ l.length acc).run P w = .ok ⟨(acc.data.toList ++ l).toArray⟩ w
 | [], o, acc, _ => by simp [Extern.Bytes.loadBytes]
 | x :: l, o, acc, h => by
  have h0 := h 0 (by simp)
  simp only [Nat.add_zero, List.getD_cons_zero] at h0
  have ih := Z40 b l (o + 1) (acc.push x) (fun i hi => by
   have := h (i + 1) (by simpa using hi)
   simpa [Nat.add_assoc, Nat.add_comm 1 i] using this)
  have e : ((x.toNat : Int).toNat.toUInt8) = x := by simp
  simp only [Extern.Bytes.loadBytes, List.length_cons, Sem.run_bind, run_load, h0, Result.andThen, Z4a, Addr.add_lit, e]
  rw [ih]
  simp [ByteArray.push]
theorem Z9X {b1 b2 : Nat} {T1 T2 : TypeId} (x y : Hash) (h1 : w.heap[b1]? = some (.cells ⟨hc x⟩ T1 (0, 0))) (h2 : w.heap[b2]? = some (.cells ⟨hc y⟩ T2 (0, 0))) :
  (Extern.BytealgCompare.compare #[.slice (some ⟨b1, 0, none⟩) 32 32, .slice (some ⟨b2, 0, none⟩) 32 32]).run P w = .ok (.int .i64 (Extern.BytealgCompare.cmp ⟨x.l.toArray⟩ ⟨y.l.toArray⟩)) w := by
 have cell : ∀ (b : Nat) (T : TypeId) (z : Hash), w.heap[b]? = some (.cells ⟨hc z⟩ T (0, 0)) → ∀ i, i < z.l.length → w.cell? ⟨b, 0 + i, none⟩ = some (Z4a (z.l.getD i 0)) := fun b T z hz i hi => by
  rw [Z0U hz, Nat.zero_add]
  have : i < 32 := by have := z.len; omega
  simp [hc, this]
 have e1 := Z40 (P := P) b1 x.l 0 .empty (cell b1 T1 x h1)
 have e2 := Z40 (P := P) b2 y.l 0 .empty (cell b2 T2 y h2)
 rw [x.len] at e1
 rw [y.len] at e2
 have ed : ∀ u v : Value, Extern.BytealgCompare.compare #[u, v] = (do pure (goInt (Extern.BytealgCompare.cmp (← Extern.Bytes.bytesOf u) (← Extern.Bytes.bytesOf v)))) := fun _ _ => rfl
 rw [ed]
 simp only [Extern.Bytes.bytesOf, Sem.run_bind, e1, e2, Result.andThen_ok, Sem.run_pure, goInt]
 rfl
end
section
variable {P : Program} {n : Nat} {f : Nat → Value} {w : World}
theorem Zeg {o : Oper} {F : FuncId} {args : Array Value} {v : Value} (hr : (execOp (ev n f) o).run P w = (callFunc F args).run P w) (hc : (callFunc F args).run P w = .ok (.value v) w) : (execOp (ev n f) o).run P w = .ok (.value v) w := hr.trans hc
end
theorem Zad {w : World} {b1 b2 : Nat} {T1 T2 : TypeId} (x y : Hash) (h1 : w.heap[b1]? = some (.cells ⟨hc x⟩ T1 (0, 0))) (h2 : w.heap[b2]? = some (.cells ⟨hc y⟩ T2 (0, 0))) :
  (callFunc 180 #[.slice (some ⟨b1, 0, none⟩) 32 32, .slice (some ⟨b2, 0, none⟩) 32 32]).run Tryz.prog w = .ok (.value (.int .i64 (Extern.BytealgCompare.cmp ⟨x.l.toArray⟩ ⟨y.l.toArray⟩))) w := by
 rw [run_callFunc_extern Tryz.func180 (by kernel_rfl) (by kernel_rfl) (by kernel_rfl) (e := Extern.BytealgCompare.compare) (by kernel_rfl), Z9X x y h1 h2]
 rfl
end Go.Proofs.YtenihpghfdcpkaaGreat
namespace Go.Proofs.YtenihpghfdcpkaaGreat
open Go.RowKit Go.Sort
def Z2Q (a b : Int) : Int := if a < b then -1 else if a > b then 1 else 0
theorem Zbk (a : Int) (W : World) : Calls Tryz.prog 103 #[.int .u64 a] W fun e w' => e = .returned (.bool false) ∧ w' = W := by
 go_enter Tryz.func103, Tryz.ntmps103
 go_wp2
 go_ret
 exact ⟨by simp, rfl⟩
theorem ZbU (a b : Int) (W : World) : Calls Tryz.prog 62 #[.int .u64 a, .int .u64 b] W fun e w' => e = .returned (.int .i64 (Z2Q a b)) ∧ w' = W := by
 have hn := fun a W => Zbk a W
 go_enter Tryz.func62, Tryz.ntmps62
 go_wp2_with (go_at_call 103; refine (hn _ _).mono ?_; rintro e w' ⟨rfl, rfl⟩)
 all_goals (go_ret; exact ⟨by unfold Z2Q; split <;> first | rfl | (split <;> first | rfl | omega) | omega, rfl⟩)
theorem Zb1 (a : Int) (W : World) : Calls Tryz.prog 120 #[.int .i64 a] W fun e w' => e = .returned (.bool false) ∧ w' = W := by
 go_enter Tryz.func120, Tryz.ntmps120
 go_wp2
 go_ret
 exact ⟨by simp, rfl⟩
theorem Z3V (a b : Int) (W : World) : Calls Tryz.prog 92 #[.int .i64 a, .int .i64 b] W fun e w' => e = .returned (.int .i64 (Z2Q a b)) ∧ w' = W := by
 have hn := fun a W => Zb1 a W
 go_enter Tryz.func92, Tryz.ntmps92
 go_wp2_with (go_at_call 120; refine (hn _ _).mono ?_; rintro e w' ⟨rfl, rfl⟩)
 all_goals (go_ret; exact ⟨by unfold Z2Q; split <;> first | rfl | (split <;> first | rfl | omega) | omega, rfl⟩)
def or2 (a b : Int) : Int := if a = 0 then b else a
theorem ZcV (a b : Int) (B : Nat) (W : World) (h0 : W.cell? ⟨B, 0, none⟩ = some (.int .i64 a)) (h1 : W.cell? ⟨B, 1, none⟩ = some (.int .i64 b)) : Calls Tryz.prog 61 #[.slice (some ⟨B, 0, none⟩) 2 2] W fun e w' => e = .returned (.int .i64 (or2 a b)) ∧ w' = W := by
 go_enter Tryz.func61, Tryz.ntmps61
 go_wp2
 refine wp_loop_rounds 3 ?_
 rw [rounds_succ]
 go_wp2
 ·go_ret
  exact ⟨by unfold or2; simp_all, rfl⟩
 ·rw [rounds_succ]
  go_wp2
  ·go_ret
   exact ⟨by unfold or2; simp_all, rfl⟩
  ·rw [rounds_succ]
   go_wp2
   go_ret
   exact ⟨by unfold or2; simp_all, rfl⟩
end Go.Proofs.YtenihpghfdcpkaaGreat
namespace Go.Proofs.YtenihpghfdcpkaaGreat
open Go.RowKit
def Gr (w w' : World) : Prop := ∃ q os', w' = Sort.grow (w.drewN q) os'
theorem Gr.refl (w : World) : Gr w w := ⟨0, #[], by simp [Sort.grow, World.drewN]⟩
theorem Gr.alloc (w : World) (o : Obj) : Gr w (w.alloc o) := ⟨0, #[o], by rw [Sort.alloc_eq_grow]; rfl⟩
theorem Gr.drew (w : World) : Gr w w.drew := ⟨1, #[], by rw [Sort.grow_empty]; rfl⟩
theorem Gr.trans {a b c : World} (h : Gr a b) (k : Gr b c) : Gr a c := by
 obtain ⟨q, os, rfl⟩ := h
 obtain ⟨q2, os2, rfl⟩ := k
 exact ⟨q + q2, os ++ os2, by simp [Sort.grow, World.drewN, Array.append_assoc, Nat.add_assoc]⟩
section
variable {P : Program} {ops : Array Oper} {n : Nat} {f : Nat → Value} {w w0 : World} {dst : Option Tmp} {ty : TypeId} {pos : String} {aft : Array Edge} {gd : Option (Nat × Bool)} {K : Act → World → Prop} {Q : Exit → Act → World → Prop} {G : List Ck}
theorem Z3P {T : TypeId} {x : Operand} {v : Value} {vs : List Value} {d : Nat} (hd : dst = some d) (H : Sat w0 G w) (hx : ev n f x = v) (hvs : v.cells = ⟨vs⟩)
  (k : ∀ b w', Sat w0 (G ++ [Z0 b T vs]) w' → Gr w w' → K (fr n (upd f d (.pointer (some ⟨b, 0, none⟩)))) w') : WO P ⟨dst, .box T x, ty, pos, aft, gd⟩ K Q n f w := by
 refine Z4D hd (e_box hx) (k _ _ ?_ (Gr.alloc _ _))
 rw [hvs]
 exact H.add ⟨rfl, rfl, rfl, by simp⟩ (fun b hb => Below.heap_alloc w _ b hb) (Z1s w _) (fun b hb => Nat.le_of_eq hb.symm)
theorem Z5z {id : Nat} {l : List Oper} (H : Sat w0 G w) (Gs : List Ck) (m : Nat) (hl : l.length = m) (hm : P.follows .mixedOrders = true) (hs : Sat w0 G w.drew → Sat w0 Gs w.drew) (k : ∀ w1, Sat w0 G w1 → Sat w0 Gs w1 → Gr w w1 → WH P l.toArray Q (Sat w0 Gs) m (Array.replicate m false) n f w1) :
  WC P (Code.region id l.toArray true) Q n f w := by
 subst hl
 exact ⟨wp_region_held (S := Sat w0 Gs) hm (by simpa using (k w.drew H.drew (hs H.drew) (Gr.drew _)).h)⟩
theorem Z5D {T e : TypeId} {size bytes N : Nat} {parts : Array (Nat × Operand)} {d : Nat} (hd : dst = some d) (H : Sat w0 G w) (hR : Z62 P T e size bytes = true) {z : Value} (hz : (P.info? e).bind (·.zero) = some z) {pvs : List (Nat × Value)} {vs : List Value}
  (hp : (parts.map fun q => (q.1, ev n f q.2)).toList = pvs) (hf : Instr.fill (fun j => some (j * size, size)) ((Array.range (N * size)).map fun q => z.cells[q % z.cells.size]!) pvs = some ⟨vs⟩) (hl : Nat.beq vs.length (N * size) = true) (hN : Nat.blt 0 N = true) (hsz : Nat.ble (N * size) 16777216 = true)
  (kk : ∀ b w', Sat w0 (G ++ [Zc e size (.slice (some ⟨b, 0, none⟩) N N) N vs]) w' → Gr w w' → K (fr n (upd f d (.slice (some ⟨b, 0, none⟩) N N))) w') : WO P ⟨dst, .buildSlice T N parts, ty, pos, aft, gd⟩ K Q n f w := by
 obtain ⟨i, z', ht, hi, hz', hs, hby, hzs, h0⟩ := Z3C hR
 have hl := Nat.eq_of_beq_eq_true hl
 have hsz := Nat.le_of_ble_eq_true hsz
 have hN : 0 < N := by simpa [Nat.blt_eq] using hN
 have hpos : 0 < N * size := Nat.mul_pos hN h0
 have hr : (execOp (ev n f) ⟨dst, .buildSlice T N parts, ty, pos, aft, gd⟩).run P w = .ok (.value (.slice (some ⟨w.heap.size, 0, none⟩) N N)) (w.alloc (.cells ⟨vs⟩ e (0, 0))) := by
  have hp2 : (parts.map fun q => (q.1, ev n f q.2)).toList = pvs := hp
  simp only [execOp, Instr.buildSlice]
  have hzv := Z41 (P := P) (w := w) hz
  have h1 : ¬ 16777216 < N * size := by omega
  have h2 : ¬ N * size = 0 := by omega
  simp only [hp2]
  simp [run_underlying ht, sizeOf, typeInfo, hi, hs, Result.andThen, h1, h2, hzv, hf, newRow]
 refine Z4D hd hr (kk _ _ (H.add ⟨rfl, rfl, rfl, by simp⟩ (fun b hb => Below.heap_alloc w _ b hb) ?_ (fun b hb => ?_)) (Gr.alloc _ _))
 ·refine ⟨hl, .inr ⟨w.heap.size, N, ⟨vs⟩, rfl, Nat.zero_le _, Z1s w _, Nat.le_refl _, ?_, by simpa using hl, ?_⟩⟩
  ·have := Nat.le_mul_of_pos_right N h0
   unfold maxLen; omega
  ·rw [← hl]; simp
 ·simp [Zc, Value.ownBlock] at hb; omega
end
abbrev Z3K (p0 : Int) (p1 : Int) : List Value := ([(.int .i64 p0), (.int .i64 p1)] : List Value)
abbrev Z7P (p0 : Z1H) : List Value := ([(.int .i64 p0.cl), (.int .i64 p0.sq)] : List Value) ++ hc p0.h ++ ([(.int .u64 p0.t)] : List Value)
theorem ZbN (w : World) (a b c d : Int) :
  Calls Tryz.prog 63 #[(.agg ⟨([(.int .i64 (a)), (.int .i64 (b))] : List Value)⟩), (.agg ⟨([(.int .i64 (c)), (.int .i64 (d))] : List Value)⟩)] w fun e w' => e = .returned (.int .i64 (or2 (Z2Q a c) (Z2Q b d))) ∧ Upd [] w w' ∧ Gr w w' := by
 have H := Sat.start0 w
 refine Z8 Tryz.func63 rfl 17 rfl kn ?_
 refine zsl <| zy <| Z3P (vs := (Z3K a b)) rfl H rfl rfl fun b2 w3 H4 g5 => ?_
 refine kk <| zy <| Z3P (vs := (Z3K c d)) rfl H4 rfl rfl fun b7 w8 H9 g10 => ?_
 have gr11 := g5.trans g10
 refine kk <| wv 4 (vi 0) <| znt <| Z5 <| Z5z H9 [Z3 w (fun _ => False), Z0 b2 59 (Z3K a b), Z0 b7 59 (Z3K c d)] 13 rfl kr (fun Hx => (Hx.pk [0, 1, 2])) fun w12 H13 S14 g15 => ?_
 have gr16 := gr11.trans g15
 refine hv0 0 S14 5 (pt b2 0) <| hv0 1 S14 6 (vi a) ?_ (he := fun _ H' => (zl1 (H'.cell 1 rfl rfl)))
 refine hv0 2 S14 7 (pt b7 0) <| hv0 3 S14 8 (vi c) ?_ (he := fun _ H' => (zl1 (H'.cell 2 rfl rfl)))
 refine hv0 5 S14 10 (pt b2 1) <| hv0 6 S14 11 (vi b) ?_ (he := fun _ H' => (zl1 (H'.cell 1 rfl rfl)))
 refine hv0 7 S14 12 (pt b7 1) <| hv0 8 S14 13 (vi d) ?_ (he := fun _ H' => (zl1 (H'.cell 2 rfl rfl)))
 refine zhy 4 ?_
 refine zdc 9 (Z3V a c w12) ?_
 rintro _ w18 ⟨rfl, hw18⟩
 obtain rfl := hw18.symm
 refine ⟨_, rfl, ?_⟩
 have S19 := H13.pk [0, 1, 2]
 refine kh S19 <| zhy 9 ?_
 refine zdc 14 (Z3V b d w12) ?_
 rintro _ w21 ⟨rfl, hw21⟩
 obtain rfl := hw21.symm
 refine ⟨_, rfl, ?_⟩
 have S22 := H13.pk [0, 1, 2]
 refine kh S22 <| zhy 10 ?_
 refine Z5D (e := 3) (size := 1) (bytes := 8) (z := (vi 0)) (pvs := [(0, (vi (Z2Q a c))), (1, (vi (Z2Q b d)))]) (vs := (Z3K (Z2Q a c) (Z2Q b d))) rfl H13 kr kr kr kr kr rfl rfl ?_
 intro b24 w25 H26 g27
 have gr28 := gr16.trans g27
 have S29 := H26.pk [0, 1, 2]
 refine kh S29 <| zhy 11 ?_
 refine zdc 16 (ZcV (Z2Q a c) (Z2Q b d) b24 w25 (Z2J (H26.at 3 rfl) rfl rfl) (Z2J (H26.at 3 rfl) rfl rfl)) ?_
 rintro _ w31 ⟨rfl, hw31⟩
 obtain rfl := hw31.symm
 refine ⟨_, rfl, ?_⟩
 have S32 := H26.pk [0, 1, 2]
 refine kh S32 <| hv0 12 S32 4 (vi (or2 (Z2Q a c) (Z2Q b d))) <| zhf <| ztn <| Zq <| ze1 (vi (or2 (Z2Q a c) (Z2Q b d))) ?_
 exact ⟨rfl, H26.upd 0 rfl [] ne, gr28⟩
theorem Zde (w : World) (x y : Z1H) :
  Calls Tryz.prog 60 #[(.agg ⟨(([(.int .i64 (x.cl)), (.int .i64 (x.sq))] : List Value) ++ hc x.h ++ ([(.int .u64 (x.t))] : List Value))⟩), (.agg ⟨(([(.int .i64 (y.cl)), (.int .i64 (y.sq))] : List Value) ++ hc y.h ++ ([(.int .u64 (y.t))] : List Value))⟩)] w fun e w' => e = .returned (.int .i64 (or2 (Z2Q x.t y.t) (or2 (Z2Q x.cl y.cl) (Z2Q x.sq y.sq)))) ∧ Upd [] w w' ∧ Gr w w' := by
 have H := Sat.start0 w
 refine Z8 Tryz.func60 rfl 17 rfl kn ?_
 refine zsl <| zy <| Z3P (vs := (Z7P x)) rfl H rfl rfl fun b2 w3 H4 g5 => ?_
 refine kk <| zy <| Z3P (vs := (Z7P y)) rfl H4 rfl rfl fun b7 w8 H9 g10 => ?_
 have gr11 := g5.trans g10
 refine kk <| wv 4 (vi 0) <| znt <| Z5 <| Z5z H9 [Z3 w (fun _ => False), Z0 b2 63 (Z7P x), Z0 b7 63 (Z7P y)] 13 rfl kr (fun Hx => (Hx.pk [0, 1, 2])) fun w12 H13 S14 g15 => ?_
 have gr16 := gr11.trans g15
 refine hv0 0 S14 5 (pt b2 34) <| hv0 1 S14 6 (vu x.t) ?_ (he := fun _ H' => (zl1 (H'.cell 1 rfl kr)))
 refine hv0 2 S14 7 (pt b7 34) <| hv0 3 S14 8 (vu y.t) ?_ (he := fun _ H' => (zl1 (H'.cell 2 rfl kr)))
 refine hv0 5 S14 10 (pt b2 0) <| hv0 6 S14 11 (.agg ⟨(Z3K x.cl x.sq)⟩) ?_ (he := fun _ H' => (zlN (vs := (Z3K x.cl x.sq)) (H'.at 1 rfl)))
 refine hv0 7 S14 12 (pt b7 0) <| hv0 8 S14 13 (.agg ⟨(Z3K y.cl y.sq)⟩) ?_ (he := fun _ H' => (zlN (vs := (Z3K y.cl y.sq)) (H'.at 2 rfl)))
 refine zhy 4 ?_
 refine zdc 9 (ZbU x.t y.t w12) ?_
 rintro _ w18 ⟨rfl, hw18⟩
 obtain rfl := hw18.symm
 refine ⟨_, rfl, ?_⟩
 have S19 := H13.pk [0, 1, 2]
 refine kh S19 <| zhy 9 ?_
 refine zdc 14 (ZbN w12 x.cl x.sq y.cl y.sq) ?_
 rintro _ w21 ⟨rfl, u23, g24⟩
 have H22 := H13.keepU u23
 refine ⟨_, rfl, ?_⟩
 have gr25 := gr16.trans g24
 have S26 := H22.pk [0, 1, 2]
 refine kh S26 <| zhy 10 ?_
 refine Z5D (e := 3) (size := 1) (bytes := 8) (z := (vi 0)) (pvs := [(0, (vi (Z2Q x.t y.t))), (1, (vi (or2 (Z2Q x.cl y.cl) (Z2Q x.sq y.sq))))]) (vs := (Z3K (Z2Q x.t y.t) (or2 (Z2Q x.cl y.cl) (Z2Q x.sq y.sq)))) rfl H22 kr kr kr kr kr rfl rfl ?_
 intro b28 w29 H30 g31
 have gr32 := gr25.trans g31
 have S33 := H30.pk [0, 1, 2]
 refine kh S33 <| zhy 11 ?_
 refine zdc 16 (ZcV (Z2Q x.t y.t) (or2 (Z2Q x.cl y.cl) (Z2Q x.sq y.sq)) b28 w29 (Z2J (H30.at 3 rfl) rfl rfl) (Z2J (H30.at 3 rfl) rfl rfl)) ?_
 rintro _ w35 ⟨rfl, hw35⟩
 obtain rfl := hw35.symm
 refine ⟨_, rfl, ?_⟩
 have S36 := H30.pk [0, 1, 2]
 refine kh S36 <| hv0 12 S36 4 (vi (or2 (Z2Q x.t y.t) (or2 (Z2Q x.cl y.cl) (Z2Q x.sq y.sq)))) <| zhf <| ztn <| Zq <| ze1 (vi (or2 (Z2Q x.t y.t) (or2 (Z2Q x.cl y.cl) (Z2Q x.sq y.sq)))) ?_
 exact ⟨rfl, H30.upd 0 rfl [] ne, gr32⟩
end Go.Proofs.YtenihpghfdcpkaaGreat
namespace Go.Proofs.YtenihpghfdcpkaaGreat
open Go.RowKit Go.Shelf Go.Sort
theorem Zey (p : Option Addr) (cap : Nat) (fv : Value) (w : World) : Calls Tryz.prog 128 #[.slice p 0 cap, .int .i64 0, .int .i64 0, fv] w fun e w' => e = .returned (.tuple #[]) ∧ w' = w := by
 go_enter Tryz.func128, Tryz.ntmps128
 go_wp2
 refine wp_loop_rounds 1 ?_
 rw [rounds_succ]
 go_wp2
 go_end0
 exact ⟨rfl, rfl⟩
theorem ZeD (p : Option Addr) (cap : Nat) (lim : Int) (fv : Value) (w : World) : Calls Tryz.prog 101 #[.slice p 0 cap, .int .i64 0, .int .i64 0, .int .i64 lim, fv] w fun e w' => e = .returned (.tuple #[]) ∧ w' = w := by
 have hi := fun W => Zey p cap fv W
 go_enter Tryz.func101, Tryz.ntmps101
 go_wp2
 refine wp_loop_rounds 1 ?_
 rw [rounds_succ]
 go_wp2_with (go_at_call 128; refine (hi _).mono ?_; rintro e w' ⟨rfl, rfl⟩)
 (try simp only [Exit.inBlock, Exit.then]); refine bodyPost_ret (results_none rfl _ _ _) rfl ?_
 exact ⟨rfl, rfl⟩
theorem Z9m (p : Option Addr) (cap : Nat) (fv : Value) (w : World) : Calls Tryz.prog 59 #[.slice p 0 cap, fv] w fun e w' => e = .returned (.tuple #[]) ∧ w' = w := by
 have hp := fun lim W => ZeD p cap lim fv W
 have hl : ∀ W, Calls Tryz.prog 102 #[.int .u64 0] W fun e w' => e = .returned (.int .i64 (Lib.bitLen 0 : Nat)) ∧ w' = W := fun W => Any.bits_Len Z7O 0 W (by omega) (by omega)
 go_enter Tryz.func59, Tryz.ntmps59
 go_wp2_with (first | (go_at_call 102; refine (hl _).mono ?_; rintro e w' ⟨rfl, rfl⟩) | (go_at_call 101; refine (hp _ _).mono ?_; rintro e w' ⟨rfl, rfl⟩))
 go_end0
 exact ⟨rfl, rfl⟩
end Go.Proofs.YtenihpghfdcpkaaGreat
