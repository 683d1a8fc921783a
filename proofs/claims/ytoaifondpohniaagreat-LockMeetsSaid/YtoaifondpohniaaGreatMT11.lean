/- WHAT IS PROVED: contracts and plain laws of OfR. Conditions: stated with each. -/
import Derived.Test.YtoaifondpohniaaGreatMT08
import Derived.Test.YtoaifondpohniaaGreatMT10
set_option maxHeartbeats 4000000
set_option maxRecDepth 100000
namespace Go.Proofs.YtoaifondpohniaaGreat
open Go.RowKit
def ofT (cl seq : Int) (x : Hash) (p : List UInt8) : List UInt8 := [Zv [99, 111, 109, 109, 105, 116], Zc cl, Zc seq, x.l, Zv p].flatten
theorem Z9j (cl seq : Int) (x : Hash) (p : List UInt8) : (ofT cl seq x p).length ≤ p.length + 100 := by
 have h1 := ZR cl; have h2 := ZR seq; have h3 := x.len; have h4 := Z12 p; have h5 := Z12 [99, 111, 109, 109, 105, 116]
 simp only [List.length_cons, List.length_nil] at h5
 simp only [ofT, List.flatten_cons, List.flatten_nil, List.length_append, List.length_nil]; omega
theorem Z7u (w : World) (cl seq : Int) (x : Hash) (pa : Option Addr) (pc : Nat) (p : List UInt8) (hp : ListAt Zw 1 w (.slice pa p.length pc) p) (hcl : cl ≤ 9223372036854775807) (hsq : seq ≤ 9223372036854775807) (hlp : p.length ≤ 1000) :
  Calls Tryz.prog 72 #[(.agg ⟨([(.int .i64 (cl)), (.int .i64 (seq))] : List Value)⟩), (.agg ⟨(hc x)⟩), (.slice pa p.length pc)] w fun e w' => e = .returned (.agg ⟨hc (Z0V (ofT cl seq x p))⟩) ∧ Upd [] w w' := by
 have H := Sat.start0 w
 refine Zr Tryz.func72 rfl 22 rfl (Nat.le_of_ble_eq_true rfl) ?_
 refine Zb ?_
 refine Zl ?_
 refine ZQ (Z0 rfl) (fun K1 hK1 => ?_)
 refine Z1F (vs := ([(.int .i64 (cl)), (.int .i64 (seq))] : List Value)) rfl H rfl rfl ?_
 intro b2 w3 (H4 : Sat w [Z5 w (fun _ => False), Z1 b2 24 ([(.int .i64 (cl)), (.int .i64 (seq))] : List Value)] w3)
 refine hK1 _ _ ?_
 clear hK1 K1
 refine ZQ (Z0 rfl) (fun K5 hK5 => ?_)
 refine Z1F (vs := (hc x)) rfl H4 rfl rfl ?_
 intro b6 w7 (H8 : Sat w [Z5 w (fun _ => False), Z1 b2 24 ([(.int .i64 (cl)), (.int .i64 (seq))] : List Value), Z1 b6 26 (hc x)] w7)
 refine hK5 _ _ ?_
 clear hK5 K5
 refine ZQ (Z0 rfl) (fun K9 hK9 => ?_)
 refine Z19 (zs := (hc Zt)) (z := (.agg ⟨(hc Zt)⟩)) rfl H8 (by kernel_rfl) (by kernel_rfl) ?_
 intro b10 w11 (H12 : Sat w [Z5 w (fun _ => False), Z1 b2 24 ([(.int .i64 (cl)), (.int .i64 (seq))] : List Value), Z1 b6 26 (hc x), Z1 b10 26 (hc Zt)] w11)
 refine hK9 _ _ ?_
 clear hK9 K9
 refine Zi ?_
 refine Z4 ?_
 refine Zb ?_
 refine Z0f H12 [Z5 w (fun _ => False), Z1 b2 24 ([(.int .i64 (cl)), (.int .i64 (seq))] : List Value), Z1 b6 26 (hc x)] 16 rfl (by kernel_rfl) (fun Hx => (Hx.pick [0, 1, 2] (by decide))) ?_
 intro w13 H14 S15
 refine ZM 3 rfl (by kernel_rfl) (by kernel_rfl) (by kernel_rfl) (fun _ _ _ h => h) S15 (Z0 rfl) (d := 10) (v := (.pointer (some ⟨b2, 0, none⟩))) rfl (fun _ H' => (by kernel_rfl)) ?_
 refine ZM 4 rfl (by kernel_rfl) (by kernel_rfl) (by kernel_rfl) (fun _ _ _ h => h) S15 (Z0 rfl) (d := 11) (v := (.int .i64 (cl))) rfl (fun _ H' => (Za rfl (by kernel_rfl) (H'.cell 1 rfl rfl))) ?_
 refine ZM 6 rfl (by kernel_rfl) (by kernel_rfl) (by kernel_rfl) (fun _ _ _ h => h) S15 (Z0 rfl) (d := 13) (v := (.pointer (some ⟨b2, 1, none⟩))) rfl (fun _ H' => (by kernel_rfl)) ?_
 refine ZM 7 rfl (by kernel_rfl) (by kernel_rfl) (by kernel_rfl) (fun _ _ _ h => h) S15 (Z0 rfl) (d := 14) (v := (.int .i64 (seq))) rfl (fun _ H' => (Za rfl (by kernel_rfl) (H'.cell 1 rfl rfl))) ?_
 refine ZM 9 rfl (by kernel_rfl) (by kernel_rfl) (by kernel_rfl) (fun _ _ _ h => h) S15 (Z0 rfl) (d := 16) (v := (.slice (some ⟨b6, 0, none⟩) 32 32)) rfl (fun _ H' => (by kernel_rfl)) ?_
 refine ZM 10 rfl (by kernel_rfl) (by kernel_rfl) (by kernel_rfl) (fun _ _ _ h => h) S15 (Z0 rfl) (d := 17) (v := (.slice pa p.length pc)) rfl (fun _ H' => (by kernel_rfl)) ?_
 refine Z1l 0 rfl (by kernel_rfl) (Z0 rfl) (fun K16 hK16 => ?_)
 refine Z05 (e := 5) (size := 1) (bytes := 1) (z := (.int .u8 (0))) (pvs := [(0, (.int .u8 (99))), (1, (.int .u8 (111))), (2, (.int .u8 (109))), (3, (.int .u8 (109))), (4, (.int .u8 (105))), (5, (.int .u8 (116)))]) (vs := ([(.int .u8 (99)), (.int .u8 (111)), (.int .u8 (109)), (.int .u8 (109)), (.int .u8 (105)), (.int .u8 (116))] : List Value)) rfl H14 (by kernel_rfl) (by kernel_rfl) (by kernel_rfl) (by kernel_rfl) (by kernel_rfl) rfl rfl ?_
 intro b17 w18 (H19 : Sat w [Z5 w (fun _ => False), Z1 b2 24 ([(.int .i64 (cl)), (.int .i64 (seq))] : List Value), Z1 b6 26 (hc x), Z1 b10 26 (hc Zt), Zd 5 1 (.slice (some ⟨b17, 0, none⟩) 6 6) 6 ([(.int .u8 (99)), (.int .u8 (111)), (.int .u8 (109)), (.int .u8 (109)), (.int .u8 (105)), (.int .u8 (116))] : List Value)] w18)
 have H20 : Sat w [Z5 w (fun _ => False), Z1 b2 24 ([(.int .i64 (cl)), (.int .i64 (seq))] : List Value), Z1 b6 26 (hc x), Z1 b10 26 (hc Zt), Zd 5 1 (.slice (some ⟨b17, 0, none⟩) 6 6) 6 ([99, 111, 109, 109, 105, 116].flatMap Zw)] w18 := H19.cast (by rw [show (([(.int .u8 (99)), (.int .u8 (111)), (.int .u8 (109)), (.int .u8 (109)), (.int .u8 (105)), (.int .u8 (116))] : List Value) : List Value) = [99, 111, 109, 109, 105, 116].flatMap Zw from rfl])
 have S21 := H20.pick [0, 1, 2] (by decide)
 refine hK16 _ _ S21 ?_
 clear hK16 K16
 refine Z1l 1 rfl (by kernel_rfl) (Z0 rfl) (fun K22 hK22 => ?_)
 refine Z1Z (e := 5) (s := [99, 111, 109, 109, 105, 116]) rfl H20 4 rfl (by kernel_rfl) (by kernel_rfl) rfl ?_
 intro w23 (H24 : Sat w [Z5 w (fun _ => False), Z1 b2 24 ([(.int .i64 (cl)), (.int .i64 (seq))] : List Value), Z1 b6 26 (hc x), Z1 b10 26 (hc Zt), Z1O (.slice (some ⟨b17, 0, none⟩) 6 6) ([99, 111, 109, 109, 105, 116])] w23)
 have S25 := H24.pick [0, 1, 2] (by decide)
 refine hK22 _ _ S25 ?_
 clear hK22 K22
 refine Z1l 2 rfl (by kernel_rfl) (Z0 rfl) (fun K26 hK26 => ?_)
 refine ZX (d := 9) rfl (by kernel_rfl) (Z4a w23 (.slice (some ⟨b17, 0, none⟩) 6 6) ([99, 111, 109, 109, 105, 116]) (ListAt.ofTxt (H24.at 4 rfl)) (by simp)) ?_
 rintro _ w27 ⟨u28, rfl, k29, p30, q31⟩
 have H32 : Sat w [Z5 w (fun _ => False), Z1 b2 24 ([(.int .i64 (cl)), (.int .i64 (seq))] : List Value), Z1 b6 26 (hc x), Z1 b10 26 (hc Zt), Z1O (.slice (some ⟨b17, 0, none⟩) 6 6) ([99, 111, 109, 109, 105, 116]), Zd 5 1 u28 ((Zv ([99, 111, 109, 109, 105, 116])).length) ((Zv ([99, 111, 109, 109, 105, 116])).flatMap Zw)] w27 := H24.addU p30 k29 q31
 obtain ⟨a33, c34, rfl⟩ := Z9 (H32.at 5 rfl)
 refine ⟨_, rfl, ?_⟩
 have S35 := H32.pick [0, 1, 2] (by decide)
 refine hK26 _ _ S35 ?_
 clear hK26 K26
 refine Z1l 5 rfl (by kernel_rfl) (Z0 rfl) (fun K36 hK36 => ?_)
 refine ZX (d := 12) rfl (by kernel_rfl) (Z1V w27 cl (by omega)) ?_
 rintro _ w37 ⟨u38, rfl, k39, p40, q41⟩
 have H42 : Sat w [Z5 w (fun _ => False), Z1 b2 24 ([(.int .i64 (cl)), (.int .i64 (seq))] : List Value), Z1 b6 26 (hc x), Z1 b10 26 (hc Zt), Z1O (.slice (some ⟨b17, 0, none⟩) 6 6) ([99, 111, 109, 109, 105, 116]), Zd 5 1 (.slice a33 ((Zv ([99, 111, 109, 109, 105, 116])).length) c34) ((Zv ([99, 111, 109, 109, 105, 116])).length) ((Zv ([99, 111, 109, 109, 105, 116])).flatMap Zw), Zd 5 1 u38 ((Zc cl).length) ((Zc cl).flatMap Zw)] w37 := H32.addU p40 k39 q41
 obtain ⟨a43, c44, rfl⟩ := Z9 (H42.at 6 rfl)
 refine ⟨_, rfl, ?_⟩
 have S45 := H42.pick [0, 1, 2] (by decide)
 refine hK36 _ _ S45 ?_
 clear hK36 K36
 refine Z1l 8 rfl (by kernel_rfl) (Z0 rfl) (fun K46 hK46 => ?_)
 refine ZX (d := 15) rfl (by kernel_rfl) (Z1V w37 seq (by omega)) ?_
 rintro _ w47 ⟨u48, rfl, k49, p50, q51⟩
 have H52 : Sat w [Z5 w (fun _ => False), Z1 b2 24 ([(.int .i64 (cl)), (.int .i64 (seq))] : List Value), Z1 b6 26 (hc x), Z1 b10 26 (hc Zt), Z1O (.slice (some ⟨b17, 0, none⟩) 6 6) ([99, 111, 109, 109, 105, 116]), Zd 5 1 (.slice a33 ((Zv ([99, 111, 109, 109, 105, 116])).length) c34) ((Zv ([99, 111, 109, 109, 105, 116])).length) ((Zv ([99, 111, 109, 109, 105, 116])).flatMap Zw), Zd 5 1 (.slice a43 ((Zc cl).length) c44) ((Zc cl).length) ((Zc cl).flatMap Zw), Zd 5 1 u48 ((Zc seq).length) ((Zc seq).flatMap Zw)] w47 := H42.addU p50 k49 q51
 obtain ⟨a53, c54, rfl⟩ := Z9 (H52.at 7 rfl)
 refine ⟨_, rfl, ?_⟩
 have S55 := H52.pick [0, 1, 2] (by decide)
 refine hK46 _ _ S55 ?_
 clear hK46 K46
 refine Z1l 11 rfl (by kernel_rfl) (Z0 rfl) (fun K56 hK56 => ?_)
 refine ZX (d := 18) rfl (by kernel_rfl) (Z4a w47 (.slice pa p.length pc) p (ListAt.now H52 0 rfl hp) (by omega)) ?_
 rintro _ w57 ⟨u58, rfl, k59, p60, q61⟩
 have H62 : Sat w [Z5 w (fun _ => False), Z1 b2 24 ([(.int .i64 (cl)), (.int .i64 (seq))] : List Value), Z1 b6 26 (hc x), Z1 b10 26 (hc Zt), Z1O (.slice (some ⟨b17, 0, none⟩) 6 6) ([99, 111, 109, 109, 105, 116]), Zd 5 1 (.slice a33 ((Zv ([99, 111, 109, 109, 105, 116])).length) c34) ((Zv ([99, 111, 109, 109, 105, 116])).length) ((Zv ([99, 111, 109, 109, 105, 116])).flatMap Zw), Zd 5 1 (.slice a43 ((Zc cl).length) c44) ((Zc cl).length) ((Zc cl).flatMap Zw), Zd 5 1 (.slice a53 ((Zc seq).length) c54) ((Zc seq).length) ((Zc seq).flatMap Zw), Zd 5 1 u58 ((Zv p).length) ((Zv p).flatMap Zw)] w57 := H52.addU p60 k59 q61
 obtain ⟨a63, c64, rfl⟩ := Z9 (H62.at 8 rfl)
 refine ⟨_, rfl, ?_⟩
 have S65 := H62.pick [0, 1, 2] (by decide)
 refine hK56 _ _ S65 ?_
 clear hK56 K56
 refine Z1l 12 rfl (by kernel_rfl) (Z0 rfl) (fun K66 hK66 => ?_)
 refine Z05 (e := 62) (size := 1) (bytes := 24) (z := (.slice none 0 0)) (pvs := [(0, (.slice a33 ((Zv ([99, 111, 109, 109, 105, 116])).length) c34)), (1, (.slice a43 ((Zc cl).length) c44)), (2, (.slice a53 ((Zc seq).length) c54)), (3, (.slice (some ⟨b6, 0, none⟩) 32 32)), (4, (.slice a63 ((Zv p).length) c64))]) (vs := ([(.slice a33 ((Zv ([99, 111, 109, 109, 105, 116])).length) c34), (.slice a43 ((Zc cl).length) c44), (.slice a53 ((Zc seq).length) c54), (.slice (some ⟨b6, 0, none⟩) 32 32), (.slice a63 ((Zv p).length) c64)] : List Value)) rfl H62 (by kernel_rfl) (by kernel_rfl) (by kernel_rfl) (by kernel_rfl) (by kernel_rfl) rfl rfl ?_
 intro b67 w68 (H69 : Sat w [Z5 w (fun _ => False), Z1 b2 24 ([(.int .i64 (cl)), (.int .i64 (seq))] : List Value), Z1 b6 26 (hc x), Z1 b10 26 (hc Zt), Z1O (.slice (some ⟨b17, 0, none⟩) 6 6) ([99, 111, 109, 109, 105, 116]), Zd 5 1 (.slice a33 ((Zv ([99, 111, 109, 109, 105, 116])).length) c34) ((Zv ([99, 111, 109, 109, 105, 116])).length) ((Zv ([99, 111, 109, 109, 105, 116])).flatMap Zw), Zd 5 1 (.slice a43 ((Zc cl).length) c44) ((Zc cl).length) ((Zc cl).flatMap Zw), Zd 5 1 (.slice a53 ((Zc seq).length) c54) ((Zc seq).length) ((Zc seq).flatMap Zw), Zd 5 1 (.slice a63 ((Zv p).length) c64) ((Zv p).length) ((Zv p).flatMap Zw), Zd 62 1 (.slice (some ⟨b67, 0, none⟩) 5 5) 5 ([(.slice a33 ((Zv ([99, 111, 109, 109, 105, 116])).length) c34), (.slice a43 ((Zc cl).length) c44), (.slice a53 ((Zc seq).length) c54), (.slice (some ⟨b6, 0, none⟩) 32 32), (.slice a63 ((Zv p).length) c64)] : List Value)] w68)
 have S70 := H69.pick [0, 1, 2] (by decide)
 refine hK66 _ _ S70 ?_
 clear hK66 K66
 refine Z1l 13 rfl (by kernel_rfl) (Z0 rfl) (fun K71 hK71 => ?_)
 have l72 := Z12 ([99, 111, 109, 109, 105, 116])
 simp only [List.length_cons, List.length_nil] at l72
 have l73 := ZR cl
 have l74 := ZR seq
 have l75 := x.len
 have l76 := Z12 p
 refine ZX (d := 20) rfl (by kernel_rfl) (Z2F w68 (.slice (some ⟨b67, 0, none⟩) 5 5) [(.slice a33 ((Zv ([99, 111, 109, 109, 105, 116])).length) c34), (.slice a43 ((Zc cl).length) c44), (.slice a53 ((Zc seq).length) c54), (.slice (some ⟨b6, 0, none⟩) 32 32), (.slice a63 ((Zv p).length) c64)] [(Zv ([99, 111, 109, 109, 105, 116])), (Zc cl), (Zc seq), x.l, (Zv p)] (ListAt.row (enc := Z9y) (sz := 1) (xs := [(.slice a33 ((Zv ([99, 111, 109, 109, 105, 116])).length) c34), (.slice a43 ((Zc cl).length) c44), (.slice a53 ((Zc seq).length) c54), (.slice (some ⟨b6, 0, none⟩) 32 32), (.slice a63 ((Zv p).length) c64)]) Z3y (by decide) (H69.at 9 rfl)) (Parts.cons (ListAt.row (enc := Zw) (sz := 1) Z06 (by decide) (H69.at 5 rfl)) (Parts.cons (ListAt.row (enc := Zw) (sz := 1) Z06 (by decide) (H69.at 6 rfl)) (Parts.cons (ListAt.row (enc := Zw) (sz := 1) Z06 (by decide) (H69.at 7 rfl)) (Parts.cons (ListAt.ofHash (Z3n (H69.at 2 rfl) (by kernel_rfl)) (by decide)) (Parts.cons (ListAt.row (enc := Zw) (sz := 1) Z06 (by decide) (H69.at 8 rfl)) Parts.nil))))) (by simp only [List.flatten_cons, List.flatten_nil, List.length_append, List.length_nil]; omega) (by simp)) ?_
 rintro _ w77 ⟨u78, rfl, k79, p80, q81⟩
 have H82 : Sat w [Z5 w (fun _ => False), Z1 b2 24 ([(.int .i64 (cl)), (.int .i64 (seq))] : List Value), Z1 b6 26 (hc x), Z1 b10 26 (hc Zt), Z1O (.slice (some ⟨b17, 0, none⟩) 6 6) ([99, 111, 109, 109, 105, 116]), Zd 5 1 (.slice a33 ((Zv ([99, 111, 109, 109, 105, 116])).length) c34) ((Zv ([99, 111, 109, 109, 105, 116])).length) ((Zv ([99, 111, 109, 109, 105, 116])).flatMap Zw), Zd 5 1 (.slice a43 ((Zc cl).length) c44) ((Zc cl).length) ((Zc cl).flatMap Zw), Zd 5 1 (.slice a53 ((Zc seq).length) c54) ((Zc seq).length) ((Zc seq).flatMap Zw), Zd 5 1 (.slice a63 ((Zv p).length) c64) ((Zv p).length) ((Zv p).flatMap Zw), Zd 62 1 (.slice (some ⟨b67, 0, none⟩) 5 5) 5 ([(.slice a33 ((Zv ([99, 111, 109, 109, 105, 116])).length) c34), (.slice a43 ((Zc cl).length) c44), (.slice a53 ((Zc seq).length) c54), (.slice (some ⟨b6, 0, none⟩) 32 32), (.slice a63 ((Zv p).length) c64)] : List Value), Zd 5 1 u78 (([(Zv ([99, 111, 109, 109, 105, 116])), (Zc cl), (Zc seq), x.l, (Zv p)].flatten).length) (([(Zv ([99, 111, 109, 109, 105, 116])), (Zc cl), (Zc seq), x.l, (Zv p)].flatten).flatMap Zw)] w77 := H69.addU p80 k79 q81
 obtain ⟨a83, c84, rfl⟩ := Z9 (H82.at 10 rfl)
 refine ⟨_, rfl, ?_⟩
 have S85 := H82.pick [0, 1, 2] (by decide)
 refine hK71 _ _ S85 ?_
 clear hK71 K71
 refine Z1l 14 rfl (by kernel_rfl) (Z0 rfl) (fun K86 hK86 => ?_)
 refine ZX (d := 21) rfl (by kernel_rfl) (Z8J w77 a83 c84 ([(Zv ([99, 111, 109, 109, 105, 116])), (Zc cl), (Zc seq), x.l, (Zv p)].flatten) (ListAt.row (enc := Zw) (sz := 1) Z06 (by decide) (H82.at 10 rfl)) (by have q_ := Z9j cl seq x p; unfold ofT at q_; omega)) ?_
 rintro _ w87 ⟨rfl, u89⟩
 have H88 := H82.keepU u89
 refine ⟨_, rfl, ?_⟩
 have S90 := H88.pick [0, 1, 2] (by decide)
 refine hK86 _ _ S90 ?_
 clear hK86 K86
 refine Z1l 15 rfl (by kernel_rfl) (Z0 rfl) (fun K91 hK91 => ?_)
 refine Z0q (vs := (hc (Z0V ([(Zv ([99, 111, 109, 109, 105, 116])), (Zc cl), (Zc seq), x.l, (Zv p)].flatten)))) (cs' := (hc (Z0V ([(Zv ([99, 111, 109, 109, 105, 116])), (Zc cl), (Zc seq), x.l, (Zv p)].flatten)))) rfl H88 3 rfl rfl rfl rfl (by kernel_rfl) (Nat.le_of_ble_eq_true (by kernel_rfl)) (Nat.le_of_ble_eq_true (by kernel_rfl)) (by kernel_rfl) (by kernel_rfl) ?_
 intro w92 (H93 : Sat w [Z5 w (fun _ => False), Z1 b2 24 ([(.int .i64 (cl)), (.int .i64 (seq))] : List Value), Z1 b6 26 (hc x), Z1 b10 26 (hc (Z0V ([(Zv ([99, 111, 109, 109, 105, 116])), (Zc cl), (Zc seq), x.l, (Zv p)].flatten))), Z1O (.slice (some ⟨b17, 0, none⟩) 6 6) ([99, 111, 109, 109, 105, 116]), Zd 5 1 (.slice a33 ((Zv ([99, 111, 109, 109, 105, 116])).length) c34) ((Zv ([99, 111, 109, 109, 105, 116])).length) ((Zv ([99, 111, 109, 109, 105, 116])).flatMap Zw), Zd 5 1 (.slice a43 ((Zc cl).length) c44) ((Zc cl).length) ((Zc cl).flatMap Zw), Zd 5 1 (.slice a53 ((Zc seq).length) c54) ((Zc seq).length) ((Zc seq).flatMap Zw), Zd 5 1 (.slice a63 ((Zv p).length) c64) ((Zv p).length) ((Zv p).flatMap Zw), Zd 62 1 (.slice (some ⟨b67, 0, none⟩) 5 5) 5 ([(.slice a33 ((Zv ([99, 111, 109, 109, 105, 116])).length) c34), (.slice a43 ((Zc cl).length) c44), (.slice a53 ((Zc seq).length) c54), (.slice (some ⟨b6, 0, none⟩) 32 32), (.slice a63 ((Zv p).length) c64)] : List Value), Zd 5 1 (.slice a83 (([(Zv ([99, 111, 109, 109, 105, 116])), (Zc cl), (Zc seq), x.l, (Zv p)].flatten).length) c84) (([(Zv ([99, 111, 109, 109, 105, 116])), (Zc cl), (Zc seq), x.l, (Zv p)].flatten).length) (([(Zv ([99, 111, 109, 109, 105, 116])), (Zc cl), (Zc seq), x.l, (Zv p)].flatten).flatMap Zw)] w92)
 have S95 := H93.pick [0, 1, 2] (by decide)
 refine hK91 _ _ S95 ?_
 clear hK91 K91
 refine Z20 (by kernel_rfl) ?_
 refine Z4 ?_
 refine ZY ?_
 refine Z1i rfl (Z0e (vs := (hc (Z0V ([(Zv ([99, 111, 109, 109, 105, 116])), (Zc cl), (Zc seq), x.l, (Zv p)].flatten)))) rfl (by kernel_rfl) (by kernel_rfl) (by exact Nat.le_of_ble_eq_true (by kernel_rfl)) (H93.at 3 rfl) (by kernel_rfl)) ?_
 exact ⟨rfl, H93.upd 0 rfl [] (fun _ h => h.elim)⟩
end Go.Proofs.YtoaifondpohniaaGreat
