/- WHAT IS PROVED: contracts and plain laws of OfR, BatD, Dt16, ArrB. Conditions: stated with each. -/
import Derived.Laws.MakeOwn
import Derived.Test.YtenihpghfdcpkaaGreatPV02
import Derived.Test.YtenihpghfdcpkaaGreatPV05
import Derived.Test.YtenihpghfdcpkaaGreatPV07
import Derived.Test.YtenihpghfdcpkaaGreatPV10
import Derived.Test.YtenihpghfdcpkaaGreatPV12
set_option maxHeartbeats 4000000
set_option maxRecDepth 100000
namespace Go.Proofs.YtenihpghfdcpkaaGreat
open Go.RowKit
abbrev ZdZ (p0 : Int) (p1 : Int) : List Value := ([i6 p0, i6 p1] : LV)
abbrev Ze6 : List Value := ([(.int .u8 (99)), (.int .u8 (111)), (.int .u8 (109)), (.int .u8 (109)), (.int .u8 (105)), (.int .u8 (116))] : LV)
abbrev kOfR_3 (p0 : Option Addr) (p1 : Nat) (p2 : Nat) (p3 : Option Addr) (p4 : Nat) (p5 : Nat) (p6 : Option Addr) (p7 : Nat) (p8 : Nat) (p9 : Nat) (p10 : Option Addr) (p11 : Nat) (p12 : Nat) : List Value := ([(.slice p0 p1 p2), (.slice p3 p4 p5), (.slice p6 p7 p8), (.slice (some ⟨p9, 0, none⟩) 32 32), (.slice p10 p11 p12)] : LV)
def ofT (cl seq : Int) (x : Hash) (p : List UInt8) : List UInt8 := [Zm zq1, Z5 cl, Z5 seq, x.l, Zm p].flatten
theorem Zce (cl seq : Int) (x : Hash) (p : List UInt8) : (ofT cl seq x p).length ≤ p.length + 100 := by
 have h1 := ZA cl; have h2 := ZA seq; have h3 := x.len; have h4 := Z0K p; have h5 := Z0K zq1
 simp only [List.length_cons, List.length_nil] at h5
 simp only [ofT, List.flatten_cons, List.flatten_nil, List.length_append, List.length_nil]; omega
theorem Z83 (cl seq : Int) (x : Hash) (p : List UInt8) : ofT cl seq x p = ([] ++ Zm zq1 ++ Z5 cl ++ Z5 seq ++ x.l ++ Zm p) := by
 simp only [ofT, List.flatten_cons, List.flatten_nil, List.append_nil, List.nil_append, List.append_assoc]
theorem Z9r (cl seq : Int) (x : Hash) (p : List UInt8) (h : p.length ≤ 1000) : ([] ++ Zm zq1 ++ Z5 cl ++ Z5 seq ++ x.l ++ Zm p).length ≤ 1000000 := by
 have := Zce cl seq x p
 rw [Z83] at this; omega
theorem Z8e (w : World) (cl seq : Int) (x : Hash) (pa : Option Addr) (pc : Nat) (p : List UInt8) (hp : ListAt Zx 1 w (.slice pa p.length pc) p) (hcl : cl ≤ 9223372036854775807) (hsq : seq ≤ 9223372036854775807) (hlp : p.length ≤ 1000) :
  Calls Tryz.prog 29 #[(.agg ⟨([i6 cl, i6 seq] : LV)⟩), (.agg ⟨(hc x)⟩), (.slice pa p.length pc)] w fun e w' => e = .returned (.agg ⟨hc (Z0E (ofT cl seq x p))⟩) ∧ Upd [] w w' := by
 have H := Sat.start0 w
 refine Zg Tryz.func29 rfl 22 rfl kn ?_
 refine zsl <| zy <| zdb (ZdZ cl seq) H fun b2 w3 H4 => ?_
 refine kk <| zy <| zdb (hc x) H4 fun b6 w7 H8 => ?_
 refine kk <| zy <| zda (hc Zz) H8 fun b10 w11 H12 => ?_
 refine kk <| znt <| Z9 <| Z0a H12 [zR w, Z0 b2 59 (ZdZ cl seq), Z0 b6 61 (hc x)] 16 rfl kr (fun Hx => (Hx.pk [0, 1, 2])) fun w13 H14 S15 => ?_
 refine hv0 3 S15 10 (pt b2 0) <| hv0 4 S15 11 (vi cl) ?_ (he := fun _ H' => (zl1 (H'.cell 1 rfl rfl)))
 refine hv0 6 S15 13 (pt b2 1) <| hv0 7 S15 14 (vi seq) ?_ (he := fun _ H' => (zl1 (H'.cell 1 rfl rfl)))
 refine hv0 9 S15 16 (.slice (some ⟨b6, 0, none⟩) 32 32) <| hv0 10 S15 17 (.slice pa p.length pc) <| zhy 0 ?_
 refine Z2z 5 1 1 (.int .u8 (0)) [(0, (.int .u8 (99))), (1, (.int .u8 (111))), (2, (.int .u8 (109))), (3, (.int .u8 (109))), (4, (.int .u8 (105))), (5, (.int .u8 (116)))] (Ze6) H14 ?_
 intro b17 w18 H19
 have H20 := H19.ct 4 rfl (Zo 5 1 (.slice (some ⟨b17, 0, none⟩) 6 6) 6 (zq1.flatMap Zx)) (by rw [show ((Ze6) : LV) = zq1.flatMap Zx from rfl])
 have S21 := H20.pk [0, 1, 2]
 refine kh S21 <| zhy 1 ?_
 refine Z1l (e := 5) (s := zq1) rfl H20 4 rfl kr kr rfl ?_
 intro w23 H24
 have S25 := H24.pk [0, 1, 2]
 refine kh S25 <| zhy 2 ?_
 refine zdc 9 (Z3Y w23 (.slice (some ⟨b17, 0, none⟩) 6 6) zq1 (ListAt.ofTxt (H24.at 4 rfl)) (by simp)) ?_
 rintro _ w27 ⟨u28, rfl, k29, p30, q31⟩
 have H32 := H24.addU p30 k29 q31
 obtain ⟨a33, c34, rfl⟩ := Z3 (H32.at 5 rfl)
 refine ⟨_, rfl, ?_⟩
 have S35 := H32.pk [0, 1, 2]
 refine kh S35 <| zhy 5 ?_
 refine zdc 12 (Z1b w27 cl om) ?_
 rintro _ w37 ⟨u38, rfl, k39, p40, q41⟩
 have H42 := H32.addU p40 k39 q41
 obtain ⟨a43, c44, rfl⟩ := Z3 (H42.at 6 rfl)
 refine ⟨_, rfl, ?_⟩
 have S45 := H42.pk [0, 1, 2]
 refine kh S45 <| zhy 8 ?_
 refine zdc 15 (Z1b w37 seq om) ?_
 rintro _ w47 ⟨u48, rfl, k49, p50, q51⟩
 have H52 := H42.addU p50 k49 q51
 obtain ⟨a53, c54, rfl⟩ := Z3 (H52.at 7 rfl)
 refine ⟨_, rfl, ?_⟩
 have S55 := H52.pk [0, 1, 2]
 refine kh S55 <| zhy 11 ?_
 refine zdc 18 (Z3Y w47 (.slice pa p.length pc) p (ListAt.now H52 0 rfl hp) om) ?_
 rintro _ w57 ⟨u58, rfl, k59, p60, q61⟩
 have H62 := H52.addU p60 k59 q61
 obtain ⟨a63, c64, rfl⟩ := Z3 (H62.at 8 rfl)
 refine ⟨_, rfl, ?_⟩
 have S65 := H62.pk [0, 1, 2]
 refine kh S65 <| zhy 12 ?_
 refine Z2z 84 1 24 (.slice none 0 0) [(0, (.slice a33 ((Zm zq1).length) c34)), (1, (.slice a43 ((Z5 cl).length) c44)), (2, (.slice a53 ((Z5 seq).length) c54)), (3, (.slice (some ⟨b6, 0, none⟩) 32 32)), (4, (.slice a63 ((Zm p).length) c64))] (kOfR_3 a33 ((Zm zq1).length) c34 a43 ((Z5 cl).length) c44 a53 ((Z5 seq).length) c54 b6 a63 ((Zm p).length) c64) H62 ?_
 intro b67 w68 H69
 have S70 := H69.pk [0, 1, 2]
 refine kh S70 <| zhy 13 ?_
 have l72 := Z0K zq1
 simp only [List.length_cons, List.length_nil] at l72
 have l73 := ZA cl
 have l74 := ZA seq
 have l75 := x.len
 have l76 := Z0K p
 refine zdc 20 (Z1p w68 (.slice (some ⟨b67, 0, none⟩) 5 5) [(.slice a33 ((Zm zq1).length) c34), (.slice a43 ((Z5 cl).length) c44), (.slice a53 ((Z5 seq).length) c54), (.slice (some ⟨b6, 0, none⟩) 32 32), (.slice a63 ((Zm p).length) c64)] [(Zm zq1), (Z5 cl), (Z5 seq), x.l, (Zm p)] (ListAt.row (enc := Z9k) (sz := 1) (xs := [(.slice a33 ((Zm zq1).length) c34), (.slice a43 ((Z5 cl).length) c44), (.slice a53 ((Z5 seq).length) c54), (.slice (some ⟨b6, 0, none⟩) 32 32), (.slice a63 ((Zm p).length) c64)]) Z1T (by decide) (H69.at 9 rfl)) (Parts.cons (ListAt.row (enc := Zx) (sz := 1) Zw (by decide) (H69.at 5 rfl)) (Parts.cons (ListAt.row (enc := Zx) (sz := 1) Zw (by decide) (H69.at 6 rfl)) (Parts.cons (ListAt.row (enc := Zx) (sz := 1) Zw (by decide) (H69.at 7 rfl)) (Parts.cons (ListAt.ofHash (Z3F (H69.at 2 rfl) kr) (by decide)) (Parts.cons (ListAt.row (enc := Zx) (sz := 1) Zw (by decide) (H69.at 8 rfl)) Parts.nil))))) (by simp only [List.flatten_cons, List.flatten_nil, List.length_append, List.length_nil]; omega) (by simp)) ?_
 rintro _ w77 ⟨u78, rfl, k79, p80, q81⟩
 have H82 := H69.addU p80 k79 q81
 obtain ⟨a83, c84, rfl⟩ := Z3 (H82.at 10 rfl)
 refine ⟨_, rfl, ?_⟩
 have S85 := H82.pk [0, 1, 2]
 refine kh S85 <| zhy 14 ?_
 refine zdq 21 (ZdT w77 a83 c84 ([(Zm zq1), (Z5 cl), (Z5 seq), x.l, (Zm p)].flatten) (ListAt.row (enc := Zx) (sz := 1) Zw (by decide) (H82.at 10 rfl)) (by have q_ := Zce cl seq x p; unfold ofT at q_; omega)) H82 ?_
 intro w87 H88
 have S90 := H88.pk [0, 1, 2]
 refine kh S90 <| zhy 15 ?_
 let A0 := hc (Z0E ([(Zm zq1), (Z5 cl), (Z5 seq), x.l, (Zm p)].flatten))
 refine Z1S A0 H88 3 ?_
 intro w92 H93
 have S95 := H93.pk [0, 1, 2]
 refine kh S95 <| zhf <| ztn <| Zk <| Z5v rfl (Z02 (vs := A0) rfl kr kr kn (H93.at 3 rfl) kr) ?_
 exact ⟨rfl, H93.upd 0 rfl [] ne⟩
def Z1 (v n : Int) : Int := if n < 1 then 0 else v % n
theorem Z1k (v n : Int) (h : 1 ≤ n) : 0 ≤ Z1 v n ∧ Z1 v n < n := by
 unfold Z1; rw [if_neg (by omega)]
 exact ⟨Int.emod_nonneg _ (by omega), Int.emod_lt_of_pos _ (by omega)⟩
structure NmD where
 cl : Int
 sq : Int
deriving DecidableEq
def Z2n (x : NmD) : List Value := [i6 x.cl, i6 x.sq]
theorem Z8B (x : NmD) : (Z2n x).length = 2 := rfl
theorem Z90 (x : NmD) : (Z2n x).all (·.oneCell') = true := rfl
def nm0 : NmD := ⟨0, 0⟩
def Z21 (x : NmD) : NmD := ⟨Z1 x.cl 3, 1 + Z1 x.sq 4⟩
structure Z1g where
 i : Int
 cl : Int
 sq : Int
 h : Hash
 t : Int
def Z39 (x : Z1g) : List Value := [i6 x.i, i6 x.cl, i6 x.sq] ++ hc x.h ++ [u6 x.t]
theorem Z8z (x : Z1g) : (Z39 x).length = 36 := by simp [Z39, Zck]
theorem ZbB (x : Z1g) : (Z39 x).all (·.oneCell') = true := by
 simp only [Z39, List.all_append, Z98]
 simp [Value.oneCell', Z51]
def Z0i : Z1g := ⟨0, 0, 0, Zz, 0⟩
structure Z3x where
 cl : Int
 sq : Int
 h : Hash
 t : Int
def encEn (x : Z3x) : List Value := [i6 x.cl, i6 x.sq] ++ hc x.h ++ [u6 x.t]
def Z1t : Z3x := ⟨0, 0, Zz, 0⟩
def Z9i (x : Z3x) : Value := .agg ⟨encEn x⟩
def nmV (x : NmD) : Value := .agg ⟨Z2n x⟩
def Z1B (i : Nat) : Z1g := ⟨2 * (i : Int), i, 50, Z0E (ofT i 50 Zz [UInt8.ofNat (i : Int).toNat]), 1⟩
def Zq (n : Nat) : List Z1g := (List.range n).map Z1B
def Z1C (n : Nat) : List NmD := (List.range n).map fun (i : Nat) => (⟨(i : Int), 50⟩ : NmD)
theorem Z9E (n : Nat) : Zq (n + 1) = Zq n ++ [Z1B n] := by unfold Zq; rw [List.range_succ, List.map_append]; rfl
theorem Z9J (n : Nat) : Z1C (n + 1) = Z1C n ++ [⟨(n : Int), 50⟩] := by unfold Z1C; rw [List.range_succ, List.map_append]; rfl
theorem Z36 (n : Nat) : (Zq n).length = n := by simp [Zq]
theorem Z5H (n : Nat) : (Z1C n).length = n := by simp [Z1C]
theorem Z9w (P : List NmD) {j : Nat} (h : j < P.length) : (P.take (j + 1)).map Z21 = (P.take j).map Z21 ++ [Z21 (P.getD j nm0)] := by
 rw [List.take_add_one, List.getElem?_eq_getElem h, List.map_append, List.getD_eq_getElem?_getD, List.getElem?_eq_getElem h]; rfl
def Z0Q (F : Int) (B : List Signed) (d : Z1s) : Bool := inB F d.r && decide (0 ≤ d.i) && decide (d.sb = d.r) && Z0B B d.sb d.sm (Z0m d.r d.i)
def Z19 (F : Int) (B : List Signed) (ix : Int) (D : List Z1s) (i : Nat) : Bool := (!decide ((i : Int) > 0) || !decide ((D.getD i Z0F).r ≤ (D.getD (i - 1) Z0F).r)) && decide ((D.getD i Z0F).i = ix) && Z0Q F B (D.getD i Z0F)
def Z0j (F : Int) (B : List Signed) (ix : Int) (D : List Z1s) : Bool := (List.range D.length).all (Z19 F B ix D) && decide ((D.length : Int) = 2 * F + 1)
def ZcP (d : Z1s) : Prop := d.r ≤ 9223372036854775807 ∧ d.i ≤ 9223372036854775807
abbrev Z85 (p0 : Z1s) : List Value := ([i6 p0.r, i6 p0.i, i6 p0.sb, i6 p0.sm] : LV)
abbrev Zcs (p0 : Option Addr) (p1 : List UInt8) (p2 : Nat) : Ck := Zo 5 1 (.slice p0 p1.length p2) p1.length (p1.flatMap Zx)
theorem Z7Q (w : World) (s : Z1s) (hs : s.r ≤ 9223372036854775807 ∧ s.i ≤ 9223372036854775807) :
  Calls Tryz.prog 108 #[(.agg ⟨([i6 s.r, i6 s.i, i6 s.sb, i6 s.sm] : LV)⟩)] w fun e w' => ∃ u, e = .returned u ∧ (Zo 5 1 u (Z0m s.r s.i).length ((Z0m s.r s.i).flatMap Zx)).ok w' ∧ Upd [] w w' ∧ ∀ q_, (Zo 5 1 u (Z0m s.r s.i).length ((Z0m s.r s.i).flatMap Zx)).fp q_ → w.heap.size ≤ q_ := by
 have H := Sat.start0 w
 refine Zg Tryz.func108 rfl 11 rfl kn ?_
 refine zsl <| zy <| zdb (Z85 s) H fun b2 w3 H4 => ?_
 refine kk <| wv 2 (.slice none 0 0) <| znt <| Z9 <| Z0a H4 [zR w, Z0 b2 122 (Z85 s)] 9 rfl kr (fun Hx => (Hx.pk [0, 1])) fun w5 H6 S7 => ?_
 refine hv0 1 S7 4 (pt b2 0) <| hv0 2 S7 5 (vi s.r) ?_ (he := fun _ H' => (zl1 (H'.cell 1 rfl rfl)))
 refine hv0 4 S7 7 (pt b2 1) <| hv0 5 S7 8 (vi s.i) ?_ (he := fun _ H' => (zl1 (H'.cell 1 rfl rfl)))
 refine zhy 0 ?_
 refine zdc 3 (Z6M w5 zq4 (by decide)) ?_
 rintro _ w9 ⟨r10, a11, c12, rfl, k13, p14, q15⟩
 have H16 := H6.addU p14 k13 q15
 have H17 := H16.open 2 rfl
 refine ⟨_, rfl, ?_⟩
 have l18 := (show (Zm zq4).length ≤ 14 from Z0K _)
 have S19 := H17.pk [0, 1]
 refine kh S19 <| zhy 3 ?_
 have l26 := ZA s.r
 refine zdc 6 (Z0C w9 r10 a11 c12 (Zm zq4) (H17.fn [2, 3]) om s.r om) ?_
 rintro _ w21 ⟨a23, c24, rfl, T22⟩
 have H27 := H17.tl [Z0 r10 266 ([(.slice a23 (((Zm zq4) ++ Z5 s.r).length) c24)] : LV), (Zcs a23 ((Zm zq4) ++ Z5 s.r) c24)] [2, 3] [0, 1] T22 [2, 3, 0, 1]
 refine ⟨_, rfl, ?_⟩
 have S28 := H27.pk [0, 1]
 refine kh S28 <| zhy 6 ?_
 have l35 := ZA s.i
 refine zdc 9 (Z0C w21 r10 a23 c24 ((Zm zq4) ++ Z5 s.r) (H27.fn [2, 3]) (by simp only [List.length_append, List.length_nil]; omega) s.i om) ?_
 rintro _ w30 ⟨a32, c33, rfl, T31⟩
 let A0 := Z0 r10 266 ([(.slice a32 ((((Zm zq4) ++ Z5 s.r) ++ Z5 s.i).length) c33)] : LV)
 let A1 := Zcs a32 (((Zm zq4) ++ Z5 s.r) ++ Z5 s.i) c33
 have H36 := H27.tl [A0, A1] [2, 3] [0, 1] T31 [2, 3, 0, 1]
 refine ⟨_, rfl, ?_⟩
 have S37 := H36.pk [0, 1]
 refine kh S37 <| zhy 7 ?_
 refine zdc 10 (Z26 w30 r10 a32 c33 (((Zm zq4) ++ Z5 s.r) ++ Z5 s.i) (H36.fn [2, 3]) (by simp only [List.length_append, List.length_nil]; omega)) ?_
 rintro _ w39 ⟨u40, rfl, T41⟩
 have H42 := H36.tl [A0, A1, Zo 5 1 u40 ((((Zm zq4) ++ Z5 s.r) ++ Z5 s.i).length) ((((Zm zq4) ++ Z5 s.r) ++ Z5 s.i).flatMap Zx)] [2, 3] [0, 1] T41 [3, 4, 0, 1, 2]
 obtain ⟨a43, c44, rfl⟩ := Z3 (H42.at 4 rfl)
 refine ⟨_, rfl, ?_⟩
 have S45 := H42.pk [0, 1]
 let A2 : Value := .slice a43 (((Zm zq4) ++ Z5 s.r) ++ Z5 s.i).length c44
 refine kh S45 <| hv0 8 S45 2 A2 <| zhf <| ztn <| Zk <| ze1 A2 ?_
 have hX : (((Zm zq4) ++ Z5 s.r) ++ Z5 s.i) = Z0m s.r s.i := by simp only [Z0m, List.flatten_cons, List.flatten_nil, List.append_nil, List.append_assoc, List.nil_append]
 exact ⟨_, rfl, (by rw [← hX]; exact H42.at 4 rfl), H42.upd 0 rfl [] ne, (by rw [← hX]; exact H42.fresh 0 rfl (fun _ h => h) 4 rfl rfl)⟩
theorem Z3U (w : World) (s : Z1s) (hs : s.r ≤ 9223372036854775807 ∧ s.i ≤ 9223372036854775807) :
  Calls Tryz.prog 41 #[(.agg ⟨([i6 s.r, i6 s.i, i6 s.sb, i6 s.sm] : LV)⟩)] w fun e w' => ∃ u, e = .returned u ∧ (Zo 5 1 u (Z0m s.r s.i).length ((Z0m s.r s.i).flatMap Zx)).ok w' ∧ Upd [] w w' ∧ ∀ q_, (Zo 5 1 u (Z0m s.r s.i).length ((Z0m s.r s.i).flatMap Zx)).fp q_ → w.heap.size ≤ q_ := by
 have H := Sat.start0 w
 refine Zg Tryz.func41 rfl 14 rfl kn ?_
 refine zsl <| zy <| zdb (Z85 s) H fun b2 w3 H4 => ?_
 refine kk <| wv 2 (.slice none 0 0) <| znt <| Z9 <| Z0a H4 [zR w, Z0 b2 122 (Z85 s)] 12 rfl kr (fun Hx => (Hx.pk [0, 1])) fun w5 H6 S7 => ?_
 refine hv0 3 S7 6 (pt b2 0) <| hv0 4 S7 7 (vi s.r) ?_ (he := fun _ H' => (zl1 (H'.cell 1 rfl rfl)))
 refine hv0 6 S7 9 (pt b2 1) <| hv0 7 S7 10 (vi s.i) ?_ (he := fun _ H' => (zl1 (H'.cell 1 rfl rfl)))
 refine zhy 0 ?_
 let A0 := ([(.int .u8 (100)), (.int .u8 (101)), (.int .u8 (110)), (.int .u8 (121))] : LV)
 refine Z2z 5 1 1 (.int .u8 (0)) [(0, (.int .u8 (100))), (1, (.int .u8 (101))), (2, (.int .u8 (110))), (3, (.int .u8 (121)))] A0 H6 ?_
 intro b9 w10 H11
 let A2 : Value := .slice (some ⟨b9, 0, none⟩) 4 4
 have H12 := H11.ct 2 rfl (Zo 5 1 A2 4 (zq4.flatMap Zx)) (by rw [show (A0 : LV) = zq4.flatMap Zx from rfl])
 have S13 := H12.pk [0, 1]
 refine kh S13 <| zhy 1 ?_
 refine Z1l (e := 5) (s := zq4) rfl H12 2 rfl kr kr rfl ?_
 intro w15 H16
 have S17 := H16.pk [0, 1]
 refine kh S17 <| zhy 2 ?_
 refine zdc 5 (Z3Y w15 A2 zq4 (ListAt.ofTxt (H16.at 2 rfl)) (by simp)) ?_
 rintro _ w19 ⟨u20, rfl, k21, p22, q23⟩
 have H24 := H16.addU p22 k21 q23
 obtain ⟨a25, c26, rfl⟩ := Z3 (H24.at 3 rfl)
 refine ⟨_, rfl, ?_⟩
 have S27 := H24.pk [0, 1]
 refine kh S27 <| zhy 5 ?_
 refine zdc 8 (Z1b w19 s.r om) ?_
 rintro _ w29 ⟨u30, rfl, k31, p32, q33⟩
 have H34 := H24.addU p32 k31 q33
 obtain ⟨a35, c36, rfl⟩ := Z3 (H34.at 4 rfl)
 refine ⟨_, rfl, ?_⟩
 have S37 := H34.pk [0, 1]
 refine kh S37 <| zhy 8 ?_
 refine zdc 11 (Z1b w29 s.i om) ?_
 rintro _ w39 ⟨u40, rfl, k41, p42, q43⟩
 have H44 := H34.addU p42 k41 q43
 obtain ⟨a45, c46, rfl⟩ := Z3 (H44.at 5 rfl)
 refine ⟨_, rfl, ?_⟩
 have S47 := H44.pk [0, 1]
 refine kh S47 <| zhy 9 ?_
 refine Z2z 84 1 24 (.slice none 0 0) [(0, (.slice a25 ((Zm zq4).length) c26)), (1, (.slice a35 ((Z5 s.r).length) c36)), (2, (.slice a45 ((Z5 s.i).length) c46))] ([(.slice a25 ((Zm zq4).length) c26), (.slice a35 ((Z5 s.r).length) c36), (.slice a45 ((Z5 s.i).length) c46)] : LV) H44 ?_
 intro b49 w50 H51
 have S52 := H51.pk [0, 1]
 refine kh S52 <| zhy 10 ?_
 have l54 := Z0K zq4
 simp only [List.length_cons, List.length_nil] at l54
 have l55 := ZA s.r
 have l56 := ZA s.i
 refine zdc 13 (Z1p w50 (.slice (some ⟨b49, 0, none⟩) 3 3) [(.slice a25 ((Zm zq4).length) c26), (.slice a35 ((Z5 s.r).length) c36), (.slice a45 ((Z5 s.i).length) c46)] [(Zm zq4), (Z5 s.r), (Z5 s.i)] (ListAt.row (enc := Z9k) (sz := 1) (xs := [(.slice a25 ((Zm zq4).length) c26), (.slice a35 ((Z5 s.r).length) c36), (.slice a45 ((Z5 s.i).length) c46)]) Z1T (by decide) (H51.at 6 rfl)) (Parts.cons (ListAt.row (enc := Zx) (sz := 1) Zw (by decide) (H51.at 3 rfl)) (Parts.cons (ListAt.row (enc := Zx) (sz := 1) Zw (by decide) (H51.at 4 rfl)) (Parts.cons (ListAt.row (enc := Zx) (sz := 1) Zw (by decide) (H51.at 5 rfl)) Parts.nil))) (by simp only [List.flatten_cons, List.flatten_nil, List.length_append, List.length_nil]; omega) (by simp)) ?_
 rintro _ w57 ⟨u58, rfl, k59, p60, q61⟩
 have H62 := H51.addU p60 k59 q61
 obtain ⟨a63, c64, rfl⟩ := Z3 (H62.at 7 rfl)
 refine ⟨_, rfl, ?_⟩
 have S65 := H62.pk [0, 1]
 let A1 : Value := .slice a63 (([(Zm zq4), (Z5 s.r), (Z5 s.i)].flatten).length) c64
 refine kh S65 <| hv0 11 S65 2 A1 <| zhf <| ztn <| Zk <| ze1 A1 ?_
 have hX : ([(Zm zq4), (Z5 s.r), (Z5 s.i)].flatten) = Z0m s.r s.i := by rfl
 exact ⟨_, rfl, (by rw [← hX]; exact H62.at 7 rfl), H62.upd 0 rfl [] ne, (by rw [← hX]; exact H62.fresh 0 rfl (fun _ h => h) 7 rfl rfl)⟩
section
variable {g T n : Nat} {A : List Bool} {w w0 w' : World} {G : List Ck}
end
section
variable {P : Program} {n : Nat} {f : Nat → Value} {w w0 : World} {dst : Option Tmp} {ty : TypeId} {pos : String} {aft : Array Edge} {gd : Option (Nat × Bool)} {K : Act → World → Prop} {Q : Exit → Act → World → Prop} {G : List Ck}
end
section
variable {κ ν : Type} [DecidableEq κ] {P : Program} {n : Nat} {f : Nat → Value} {w w0 : World} {dst : Option Tmp} {ty : TypeId} {pos : String} {aft : Array Edge} {gd : Option (Nat × Bool)} {Q : Exit → Act → World → Prop} {G : List Ck} {T kt et : TypeId} {b : Nat} {encK : κ → Value} {encV : ν → Value} {l : List (κ × ν)}
end
theorem Z9b (a : Bool) : ∀ (es : List MapEntry) (ks : List Bool) (n : Nat), es.map (·.key) = ks.map Value.bool →
  Instr.findNow .bool (.bool a) es n = some ((ks.idxOf? a).bind fun i => (es[i]?).map fun e => (n + i, e.val)) := by
 intro es
 induction es with
 | nil => intro ks n h; cases ks <;> simp_all [Instr.findNow]
 | cons e es ih =>
  intro ks n h
  cases ks with
  | nil => simp at h
  | cons x ks =>
   simp only [List.map_cons, List.cons.injEq] at h
   obtain ⟨h1, h2⟩ := h
   by_cases hax : a = x
   ·subst hax
    simp [Instr.findNow, h1, Instr.sameNow, List.idxOf?_cons]
   ·have hx : (x == a) = false := by simp; exact fun h => hax h.symm
    have hx' : (a == x) = false := by simpa using hax
    simp only [Instr.findNow, h1, Instr.sameNow, hx', ih ks (n + 1) h2, List.idxOf?_cons, hx, Bool.false_eq_true, if_false]
    cases hi : ks.idxOf? a with
    | none => simp
    | some i => simp [Nat.add_assoc, Nat.add_comm 1 i]
theorem KeyTy.bool {P : Program} {k : TypeId} (hk : P.underlying k = some .bool) : KeyTy P k Value.bool where
 check w em a := MapKept.run_checkKey (d := .bool) hk (by simp [MapKept.IsKey]) em 9999
 find w a es ks h := by
  simp [Instr.findKey, run_underlying hk, Z9b a es ks 0 h]
 same a := by simp [Instr.sameBits]
end Go.Proofs.YtenihpghfdcpkaaGreat
